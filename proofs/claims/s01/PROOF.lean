import PyProof.Rows.All
import Wide.All
import OpenK.AllK
import Wide.FinOn
import PyProof.EqAt
import PyProof.EqKinds
import PyProof.TupleCall
import Open.SpecLaws
import KE.OsHead
import KE.OsGo
import HandS.ForSpec
import HandS.Comp
import HandS.Iter
import HandS.Dict
import HandS.WordsDict
import HandS.More
import HandS.Walk
import HandS.TupAny
import HandS.Strs
import HandS.SetFor
import PySem.Challenge.RW_rowsmerged_s01_answers

/-! part RmLaws -/
set_option linter.all false
namespace RM
open VapatBase

/-- what a step does inside its file -/
inductive Body where
  | h (a : Nat) (o n : Tokens)
  | s (x y : Nat)
def ins (f : Nat) : Body → Step
  | .h a o n => .hunk f a o n
  | .s x y => .swap f x y
def rig (k : Bool) (f : Nat) : Step := if k then .add f else .remove f

theorem view (p : Step) : (∃ f b, p = ins f b) ∨ (∃ k f, p = rig k f) ∨ (∃ f g, p = .move f g) := by
  cases p with
  | hunk f a o n => exact .inl ⟨f, .h a o n, rfl⟩
  | swap f x y => exact .inl ⟨f, .s x y, rfl⟩
  | add f => exact .inr (.inl ⟨true, f, rfl⟩)
  | remove f => exact .inr (.inl ⟨false, f, rfl⟩)
  | move f g => exact .inr (.inr ⟨f, g, rfl⟩)

def bcomm : Body → Body → Option (Body × Body)
  | .h a o n, .h b u v =>
    if a + n.length < b then some (.h (b - n.length + o.length) u v, .h a o n)
    else if b + u.length < a then some (.h b u v, .h (a - u.length + v.length) o n) else none
  | .h a o n, .s x y => some (.s x y, .h a (swapAll x y o) (swapAll x y n))
  | .s x y, .h b u v => some (.h b (swapAll x y u) (swapAll x y v), .s x y)
  | .s x y, .s u v => if x = u ∨ x = v ∨ y = u ∨ y = v then none else some (.s u v, .s x y)

theorem cm_ii (f g : Nat) (b c : Body) : commuted (ins f b) (ins g c) = if f = g then (bcomm b c).map (fun r => (ins f r.1, ins f r.2)) else some (ins g c, ins f b) := by
  by_cases e : f = g
  · subst e
    cases b <;> cases c <;> simp [commuted, ins, namesOf, disjoint, isInside, commutedInside, bcomm]
    · split
      · rfl
      · split <;> rfl
    · grind
  · have : g ≠ f := fun h => e h.symm
    cases b <;> cases c <;> simp [commuted, ins, namesOf, disjoint, e, this]
theorem cm_ir (f g : Nat) (b : Body) (k : Bool) : commuted (ins f b) (rig k g) = if f = g then none else some (rig k g, ins f b) := by
  by_cases e : f = g
  · subst e
    cases b <;> cases k <;> simp [commuted, ins, rig, namesOf, disjoint, isInside]
  · have : g ≠ f := fun h => e h.symm
    cases b <;> cases k <;> simp [commuted, ins, rig, namesOf, disjoint, e, this]
theorem cm_ri (f g : Nat) (b : Body) (k : Bool) : commuted (rig k g) (ins f b) = if f = g then none else some (ins f b, rig k g) := by
  by_cases e : f = g
  · subst e
    cases b <;> cases k <;> simp [commuted, ins, rig, namesOf, disjoint, isInside]
  · have : g ≠ f := fun h => e h.symm
    cases b <;> cases k <;> simp [commuted, ins, rig, namesOf, disjoint, e, this]
theorem cm_rr (f g : Nat) (k l : Bool) : commuted (rig k f) (rig l g) = if f = g then none else some (rig l g, rig k f) := by
  by_cases e : f = g
  · subst e
    cases l <;> cases k <;> simp [commuted, rig, namesOf, disjoint, isInside]
  · have : g ≠ f := fun h => e h.symm
    cases l <;> cases k <;> simp [commuted, rig, namesOf, disjoint, e, this]
theorem cm_im (f g h : Nat) (b : Body) : commuted (ins f b) (.move g h) = if f = g then some (.move g h, ins h b) else if f = h then none else some (.move g h, ins f b) := by
  cases b <;> simp [commuted, ins, namesOf, disjoint, isInside, inFile] <;> grind
theorem cm_mi (f g h : Nat) (b : Body) : commuted (.move g h) (ins f b) = if f = h then some (ins g b, .move g h) else if f = g then none else some (ins f b, .move g h) := by
  cases b <;> simp [commuted, ins, namesOf, disjoint, isInside, inFile] <;> grind
theorem cm_rm (f g h : Nat) (k : Bool) : commuted (rig k f) (.move g h) = if f = g ∨ f = h then none else some (.move g h, rig k f) := by
  cases k <;> simp [commuted, rig, namesOf, disjoint, isInside] <;> grind
theorem cm_mr (f g h : Nat) (k : Bool) : commuted (.move g h) (rig k f) = if f = g ∨ f = h then none else some (rig k f, .move g h) := by
  cases k <;> simp [commuted, rig, namesOf, disjoint, isInside] <;> grind
theorem cm_mm (f g h k : Nat) : commuted (.move f g) (.move h k) = if f = h ∨ f = k ∨ g = h ∨ g = k then none else some (.move h k, .move f g) := by
  simp [commuted, namesOf, disjoint, isInside] <;> grind

def bturn : Body → Body
  | .h a o n => .h a n o
  | .s x y => .s x y
theorem tn_i (f : Nat) (b : Body) : turned (ins f b) = ins f (bturn b) := by cases b <;> rfl
theorem tn_r (f : Nat) (k : Bool) : turned (rig k f) = rig (!k) f := by cases k <;> rfl
theorem tn_m (f g : Nat) : turned (.move f g) = .move g f := rfl
theorem tn_tn (p : Step) : turned (turned p) = p := by cases p <;> rfl
theorem bt_bt (b : Body) : bturn (bturn b) = b := by cases b <;> rfl

theorem sw_sw (x y : Nat) (l : Tokens) : swapAll x y (swapAll x y l) = l := by
  unfold swapAll
  rw [List.map_map]
  conv => rhs; rw [← List.map_id l]
  apply List.map_congr_left
  intro t _
  simp only [Function.comp, swapToken, id]
  grind
theorem sw_len (x y : Nat) (l : Tokens) : (swapAll x y l).length = l.length := by simp [swapAll]
theorem sw_comm (x y u v : Nat) (l : Tokens) (h : ¬ (x = u ∨ x = v ∨ y = u ∨ y = v)) : swapAll x y (swapAll u v l) = swapAll u v (swapAll x y l) := by
  unfold swapAll
  rw [List.map_map, List.map_map]
  apply List.map_congr_left
  intro t _
  simp only [Function.comp, swapToken]
  grind

theorem b_sym {b c c' b' : Body} (h : bcomm b c = some (c', b')) : bcomm c' b' = some (b, c) := by
  cases b <;> cases c <;> simp only [bcomm] at h
  · split at h
    · simp at h; obtain ⟨rfl, rfl⟩ := h; simp only [bcomm]; grind
    · split at h
      · simp at h; obtain ⟨rfl, rfl⟩ := h; simp only [bcomm]; grind
      · simp at h
  · simp at h; obtain ⟨rfl, rfl⟩ := h; simp [bcomm, sw_sw]
  · simp at h; obtain ⟨rfl, rfl⟩ := h; simp [bcomm, sw_sw]
  · split at h
    · simp at h
    · simp at h; obtain ⟨rfl, rfl⟩ := h; simp only [bcomm]; grind
theorem b_rot {b c c' b' : Body} (h : bcomm b c = some (c', b')) : bcomm (bturn b) c' = some (c, bturn b') := by
  cases b <;> cases c <;> simp only [bcomm] at h
  · split at h
    · simp at h; obtain ⟨rfl, rfl⟩ := h; simp only [bcomm, bturn]; grind
    · split at h
      · simp at h; obtain ⟨rfl, rfl⟩ := h; simp only [bcomm, bturn]; grind
      · simp at h
  · simp at h; obtain ⟨rfl, rfl⟩ := h; simp [bcomm, bturn]
  · simp at h; obtain ⟨rfl, rfl⟩ := h; simp [bcomm, bturn, sw_sw]
  · split at h
    · simp at h
    · simp at h; obtain ⟨rfl, rfl⟩ := h; simp only [bcomm, bturn]; grind
theorem some_pair {b c b' c' : Body} (h : b = b') (k : c = c') : some (b, c) = some (b', c') := by rw [h, k]
theorem hh_lo {a b : Nat} {o n u v : Tokens} (h : a + n.length < b) : bcomm (.h a o n) (.h b u v) = some (.h (b - n.length + o.length) u v, .h a o n) := if_pos h
theorem hh_hi {a b : Nat} {o n u v : Tokens} (h : b + u.length < a) : bcomm (.h a o n) (.h b u v) = some (.h b u v, .h (a - u.length + v.length) o n) := by
  simp only [bcomm]
  rw [if_neg (by omega), if_pos h]
theorem hh_no {a b : Nat} {o n u v : Tokens} (h : ¬ a + n.length < b) (k : ¬ b + u.length < a) : bcomm (.h a o n) (.h b u v) = none := by
  simp only [bcomm]
  rw [if_neg h, if_neg k]
theorem h_eq {a b : Nat} {o n : Tokens} (h : a = b) : Body.h a o n = .h b o n := by rw [h]
theorem hh_lo' {a b b' a' : Nat} {o n u v : Tokens} (h : a + n.length < b) (e : b - n.length + o.length = b') (e' : a = a') : bcomm (.h a o n) (.h b u v) = some (.h b' u v, .h a' o n) := by
  rw [hh_lo h, e, e']
theorem hh_hi' {a b b' a' : Nat} {o n u v : Tokens} (h : b + u.length < a) (e : b = b') (e' : a - u.length + v.length = a') : bcomm (.h a o n) (.h b u v) = some (.h b' u v, .h a' o n) := by
  rw [hh_hi h, e, e']
theorem hh_lo2 {a b b' : Nat} {o n u v : Tokens} (h : a + n.length < b) (e : b - n.length + o.length = b') : bcomm (.h a o n) (.h b u v) = some (.h b' u v, .h a o n) := by
  rw [hh_lo h, e]
theorem hh_hi2 {a b b' : Nat} {o n u v : Tokens} (h : b + u.length < a) (e : b = b') : bcomm (.h a o n) (.h b u v) = some (.h b' u v, .h (a - u.length + v.length) o n) := by
  rw [hh_hi h, e]
theorem hh_ways {a b : Nat} {o n u v : Tokens} {c d : Body} (h : bcomm (.h a o n) (.h b u v) = some (c, d)) :
    (a + n.length < b ∧ c = .h (b - n.length + o.length) u v ∧ d = .h a o n) ∨ (b + u.length < a ∧ c = .h b u v ∧ d = .h (a - u.length + v.length) o n) := by
  by_cases k : a + n.length < b
  · rw [hh_lo k] at h
    simp at h
    exact .inl ⟨k, h.1.symm, h.2.symm⟩
  · by_cases l : b + u.length < a
    · rw [hh_hi l] at h
      simp at h
      exact .inr ⟨l, h.1.symm, h.2.symm⟩
    · rw [hh_no k l] at h
      cases h
/-- three bodies: two faces that share the first one -/
theorem b_cube {p q r q1 p1 r1 p2 : Body} (h1 : bcomm p q = some (q1, p1)) (h2 : bcomm p1 r = some (r1, p2)) :
    (bcomm q r = none ∧ bcomm q1 r1 = none) ∨ ∃ r' q' r1' q1' p1', bcomm q r = some (r', q') ∧ bcomm q1 r1 = some (r1', q1') ∧ bcomm p r' = some (r1', p1') ∧ bcomm p1' q' = some (q1', p2) := by
  cases p with
  | h a o n => 
    cases q with
    | h b u v =>
      cases r with
      | h c x y =>
        rcases hh_ways h1 with ⟨k, rfl, rfl⟩ | ⟨k, rfl, rfl⟩
        all_goals (rcases hh_ways h2 with ⟨k', rfl, rfl⟩ | ⟨k', rfl, rfl⟩)
        all_goals (rcases Nat.lt_or_ge (b + v.length) c with k1 | k1)
        all_goals (try rcases Nat.lt_or_ge (c + x.length) b with k2 | k2)
        all_goals first
          | exact .inl ⟨hh_no (by omega) (by omega), hh_no (by omega) (by omega)⟩
          | exact .inr ⟨_, _, _, _, _, hh_lo k1, hh_lo (by omega), hh_lo2 (by omega) (by omega), hh_lo' (by omega) (by omega) (by omega)⟩
          | exact .inr ⟨_, _, _, _, _, hh_lo k1, hh_lo (by omega), hh_lo2 (by omega) (by omega), hh_hi' (by omega) (by omega) (by omega)⟩
          | exact .inr ⟨_, _, _, _, _, hh_lo k1, hh_lo (by omega), hh_hi2 (by omega) (by omega), hh_lo' (by omega) (by omega) (by omega)⟩
          | exact .inr ⟨_, _, _, _, _, hh_lo k1, hh_lo (by omega), hh_hi2 (by omega) (by omega), hh_hi' (by omega) (by omega) (by omega)⟩
          | exact .inr ⟨_, _, _, _, _, hh_lo k1, hh_hi (by omega), hh_lo2 (by omega) (by omega), hh_lo' (by omega) (by omega) (by omega)⟩
          | exact .inr ⟨_, _, _, _, _, hh_lo k1, hh_hi (by omega), hh_lo2 (by omega) (by omega), hh_hi' (by omega) (by omega) (by omega)⟩
          | exact .inr ⟨_, _, _, _, _, hh_lo k1, hh_hi (by omega), hh_hi2 (by omega) (by omega), hh_lo' (by omega) (by omega) (by omega)⟩
          | exact .inr ⟨_, _, _, _, _, hh_lo k1, hh_hi (by omega), hh_hi2 (by omega) (by omega), hh_hi' (by omega) (by omega) (by omega)⟩
          | exact .inr ⟨_, _, _, _, _, hh_hi k2, hh_lo (by omega), hh_lo2 (by omega) (by omega), hh_lo' (by omega) (by omega) (by omega)⟩
          | exact .inr ⟨_, _, _, _, _, hh_hi k2, hh_lo (by omega), hh_lo2 (by omega) (by omega), hh_hi' (by omega) (by omega) (by omega)⟩
          | exact .inr ⟨_, _, _, _, _, hh_hi k2, hh_lo (by omega), hh_hi2 (by omega) (by omega), hh_lo' (by omega) (by omega) (by omega)⟩
          | exact .inr ⟨_, _, _, _, _, hh_hi k2, hh_lo (by omega), hh_hi2 (by omega) (by omega), hh_hi' (by omega) (by omega) (by omega)⟩
          | exact .inr ⟨_, _, _, _, _, hh_hi k2, hh_hi (by omega), hh_lo2 (by omega) (by omega), hh_lo' (by omega) (by omega) (by omega)⟩
          | exact .inr ⟨_, _, _, _, _, hh_hi k2, hh_hi (by omega), hh_lo2 (by omega) (by omega), hh_hi' (by omega) (by omega) (by omega)⟩
          | exact .inr ⟨_, _, _, _, _, hh_hi k2, hh_hi (by omega), hh_hi2 (by omega) (by omega), hh_lo' (by omega) (by omega) (by omega)⟩
          | exact .inr ⟨_, _, _, _, _, hh_hi k2, hh_hi (by omega), hh_hi2 (by omega) (by omega), hh_hi' (by omega) (by omega) (by omega)⟩
      | s x y =>
        rcases hh_ways h1 with ⟨k, rfl, rfl⟩ | ⟨k, rfl, rfl⟩
        all_goals (simp only [bcomm, Option.some.injEq, Prod.mk.injEq] at h2; obtain ⟨rfl, rfl⟩ := h2)
        · refine .inr ⟨.s x y, _, .s x y, _, _, rfl, rfl, rfl, ?_⟩
          refine (hh_lo (by rw [sw_len]; exact k)).trans ?_
          rw [sw_len, sw_len]
        · refine .inr ⟨.s x y, _, .s x y, _, _, rfl, rfl, rfl, ?_⟩
          refine (hh_hi (by rw [sw_len]; exact k)).trans ?_
          rw [sw_len, sw_len]
    | s x y =>
      simp only [bcomm, Option.some.injEq, Prod.mk.injEq] at h1; obtain ⟨rfl, rfl⟩ := h1
      cases r with
      | h c u v =>
        rcases hh_ways h2 with ⟨k, rfl, rfl⟩ | ⟨k, rfl, rfl⟩
        · refine .inr ⟨.h c (swapAll x y u) (swapAll x y v), .s x y, _, .s x y, _, rfl, rfl, hh_lo2 (o := o) (by rw [sw_len] at k; exact k) ?_, ?_⟩
          · rw [sw_len, sw_len]
          · rfl
        · refine .inr ⟨.h c (swapAll x y u) (swapAll x y v), .s x y, _, .s x y, _, rfl, rfl, hh_hi (by rw [sw_len]; exact k), ?_⟩
          simp only [bcomm, sw_len]
      | s u v => 
        simp only [bcomm, Option.some.injEq, Prod.mk.injEq] at h2 ⊢; obtain ⟨rfl, rfl⟩ := h2
        by_cases k : x = u ∨ x = v ∨ y = u ∨ y = v
        · exact .inl ⟨if_pos k, if_pos k⟩
        · refine .inr ⟨.s u v, .s x y, .s u v, .s x y, _, if_neg k, if_neg k, rfl, ?_⟩
          simp only [bcomm]
          rw [sw_comm x y u v _ k, sw_comm x y u v _ k]
  | s x y =>
    cases q with
    | h b u v =>
      simp only [bcomm, Option.some.injEq, Prod.mk.injEq] at h1; obtain ⟨rfl, rfl⟩ := h1
      cases r with
      | h c o n =>
        simp only [bcomm, Option.some.injEq, Prod.mk.injEq] at h2; obtain ⟨rfl, rfl⟩ := h2
        rcases Nat.lt_or_ge (b + v.length) c with k1 | k1
        · refine .inr ⟨_, _, .h _ (swapAll x y o) (swapAll x y n), _, .s x y, hh_lo k1, hh_lo2 (by rw [sw_len]; exact k1) (by rw [sw_len, sw_len]), rfl, ?_⟩
          simp only [bcomm]
        · rcases Nat.lt_or_ge (c + o.length) b with k2 | k2
          · refine .inr ⟨_, _, _, _, _, hh_hi k2, hh_hi (by rw [sw_len]; exact k2), rfl, ?_⟩
            simp only [bcomm, sw_len]
          · exact .inl ⟨hh_no (by omega) (by omega), hh_no (by rw [sw_len]; omega) (by rw [sw_len]; omega)⟩
      | s c d =>
        simp only [bcomm] at h2
        split at h2
        · cases h2
        · rename_i k
          simp only [Option.some.injEq, Prod.mk.injEq] at h2; obtain ⟨rfl, rfl⟩ := h2
          refine .inr ⟨_, _, _, _, _, rfl, rfl, if_neg k, ?_⟩
          simp only [bcomm]
          rw [sw_comm x y c d _ k, sw_comm x y c d _ k]
    | s u v =>
      simp only [bcomm] at h1
      split at h1
      · cases h1
      · rename_i k
        simp only [Option.some.injEq, Prod.mk.injEq] at h1; obtain ⟨rfl, rfl⟩ := h1
        cases r with
        | h c o n =>
          simp only [bcomm, Option.some.injEq, Prod.mk.injEq] at h2; obtain ⟨rfl, rfl⟩ := h2
          refine .inr ⟨.h c (swapAll u v o) (swapAll u v n), .s u v, .h c (swapAll u v (swapAll x y o)) (swapAll u v (swapAll x y n)), .s u v, .s x y, rfl, rfl, ?_, if_neg k⟩
          simp only [bcomm]
          rw [sw_comm x y u v _ k, sw_comm x y u v _ k]
        | s c d =>
          simp only [bcomm] at h2
          split at h2
          · cases h2
          · rename_i k'
            simp only [Option.some.injEq, Prod.mk.injEq] at h2; obtain ⟨rfl, rfl⟩ := h2
            by_cases k3 : u = c ∨ u = d ∨ v = c ∨ v = d
            · exact .inl ⟨if_pos k3, if_pos k3⟩
            · exact .inr ⟨_, _, _, _, _, if_neg k3, if_neg k3, if_neg k', if_neg k⟩

theorem s_sym {p q q' p' : Step} (h : commuted p q = some (q', p')) : commuted q' p' = some (p, q) := by
  rcases view p with ⟨f, b, rfl⟩ | ⟨k, f, rfl⟩ | ⟨f, f', rfl⟩ <;> rcases view q with ⟨g, c, rfl⟩ | ⟨l, g, rfl⟩ | ⟨g, g', rfl⟩
  · rw [cm_ii] at h
    split at h
    · subst_vars
      cases e : bcomm b c with
      | none => rw [e] at h; cases h
      | some r =>
        rw [e] at h
        simp only [Option.map_some, Option.some.injEq, Prod.mk.injEq] at h
        obtain ⟨rfl, rfl⟩ := h
        rw [cm_ii, if_pos rfl, b_sym e]
        rfl
    · simp only [Option.some.injEq, Prod.mk.injEq] at h
      obtain ⟨rfl, rfl⟩ := h
      rw [cm_ii, if_neg (fun e => by subst e; contradiction)]
  all_goals (simp only [cm_ir, cm_ri, cm_rr, cm_im, cm_mi, cm_rm, cm_mr, cm_mm] at h)
  all_goals (repeat' split at h)
  all_goals (first | contradiction | (simp only [Option.some.injEq, Prod.mk.injEq] at h; obtain ⟨rfl, rfl⟩ := h))
  all_goals (simp only [cm_ir, cm_ri, cm_rr, cm_im, cm_mi, cm_rm, cm_mr, cm_mm])
  all_goals grind
theorem s_rot {p q q' p' : Step} (h : commuted p q = some (q', p')) : commuted (turned p) q' = some (q, turned p') := by
  rcases view p with ⟨f, b, rfl⟩ | ⟨k, f, rfl⟩ | ⟨f, f', rfl⟩ <;> rcases view q with ⟨g, c, rfl⟩ | ⟨l, g, rfl⟩ | ⟨g, g', rfl⟩
  · rw [cm_ii] at h
    split at h
    · subst_vars
      cases e : bcomm b c with
      | none => rw [e] at h; cases h
      | some r =>
        rw [e] at h
        simp only [Option.map_some, Option.some.injEq, Prod.mk.injEq] at h
        obtain ⟨rfl, rfl⟩ := h
        rw [tn_i, tn_i, cm_ii, if_pos rfl, b_rot e]
        rfl
    · simp only [Option.some.injEq, Prod.mk.injEq] at h
      obtain ⟨rfl, rfl⟩ := h
      rw [tn_i, cm_ii, if_neg (by assumption)]
  all_goals (simp only [cm_ir, cm_ri, cm_rr, cm_im, cm_mi, cm_rm, cm_mr, cm_mm] at h)
  all_goals (repeat' split at h)
  all_goals (first | contradiction | (simp only [Option.some.injEq, Prod.mk.injEq] at h; obtain ⟨rfl, rfl⟩ := h))
  all_goals (simp only [tn_i, tn_r, tn_m, cm_ir, cm_ri, cm_rr, cm_im, cm_mi, cm_rm, cm_mr, cm_mm])
  all_goals grind
theorem ii_some {f g : Nat} {b c : Body} {x y : Step} (h : commuted (ins f b) (ins g c) = some (x, y)) : ∃ b' c', x = ins g c' ∧ y = ins f b' ∧ ((f = g ∧ bcomm b c = some (c', b')) ∨ (f ≠ g ∧ c' = c ∧ b' = b)) := by
  rw [cm_ii] at h
  split at h
  · subst_vars
    cases e : bcomm b c with
    | none => rw [e] at h; cases h
    | some r =>
      rw [e] at h
      simp only [Option.map_some, Option.some.injEq, Prod.mk.injEq] at h
      exact ⟨r.2, r.1, h.1.symm, h.2.symm, .inl ⟨rfl, rfl⟩⟩
  · simp only [Option.some.injEq, Prod.mk.injEq] at h
    exact ⟨b, c, h.1.symm, h.2.symm, .inr ⟨by assumption, rfl, rfl⟩⟩
/-- the cube's conclusion, told by what the other faces give -/
def Cu (p q r q1 r1 p2 : Step) : Prop := match commuted q r, commuted q1 r1 with
  | none, none => True
  | some x, some y => match commuted p x.1 with
    | some z => z.1 = y.1 ∧ commuted z.2 x.2 = some (y.2, p2)
    | none => False
  | _, _ => False
theorem cu_of {p q r q1 r1 p2 : Step} (h : Cu p q r q1 r1 p2) : (commuted q r = none ∧ commuted q1 r1 = none) ∨ ∃ r' q' r1' q1' p1', commuted q r = some (r', q') ∧ commuted q1 r1 = some (r1', q1') ∧ commuted p r' = some (r1', p1') ∧ commuted p1' q' = some (q1', p2) := by
  unfold Cu at h
  cases k : commuted q r with
  | none => cases k' : commuted q1 r1 with
    | none => exact .inl ⟨rfl, rfl⟩
    | some y => rw [k, k'] at h; exact h.elim
  | some x => cases k' : commuted q1 r1 with
    | none => rw [k, k'] at h; exact h.elim
    | some y =>
      rw [k, k'] at h
      cases k2 : commuted p x.1 with
      | none => simp only [k2] at h
      | some z =>
        simp only [k2] at h
        exact .inr ⟨x.1, x.2, y.1, y.2, z.2, rfl, rfl, by rw [← h.1, k2], h.2⟩

theorem cu_iii {f g e : Nat} {b c d : Body} {q1 p1 r1 p2 : Step} (h1 : commuted (ins f b) (ins g c) = some (q1, p1)) (h2 : commuted p1 (ins e d) = some (r1, p2)) (n : ¬ (f = g ∧ f = e)) : Cu (ins f b) (ins g c) (ins e d) q1 r1 p2 := by
  obtain ⟨b', c', rfl, rfl, w1⟩ := ii_some h1
  obtain ⟨b'', d', rfl, rfl, w2⟩ := ii_some h2
  clear h1 h2
  unfold Cu
  simp only [cm_ii]
  by_cases k1 : f = g <;> by_cases k2 : f = e <;> by_cases k3 : g = e <;> simp_all [cm_ii] <;> (cases bcomm c d <;> simp_all [cm_ii])
theorem em2 (a b : Nat) : a = b ∨ (¬ a = b ∧ ¬ b = a) := by omega
theorem cu_iir {f : Nat} {b : Body} {g : Nat} {c : Body} {e : Nat} {ke : Bool} {q1 p1 r1 p2 : Step} (h1 : commuted (ins f b) (ins g c) = some (q1, p1)) (h2 : commuted p1 (rig ke e) = some (r1, p2)) : Cu (ins f b) (ins g c) (rig ke e) q1 r1 p2 := by
  obtain ⟨b1, c1, rfl, rfl, w1⟩ := ii_some h1
  clear h1
  all_goals (simp only [cm_ii, cm_ir, cm_ri, cm_rr, cm_im, cm_mi, cm_rm, cm_mr, cm_mm] at h2)
  all_goals (repeat' split at h2)
  all_goals (first | contradiction | skip)
  all_goals (simp only [Option.some.injEq, Prod.mk.injEq] at h2; obtain ⟨rfl, rfl⟩ := h2)
  all_goals (unfold Cu; simp only [cm_ii, cm_ir, cm_ri, cm_rr, cm_im, cm_mi, cm_rm, cm_mr, cm_mm])
  all_goals grind [cm_ii, cm_ir, cm_ri, cm_rr, cm_im, cm_mi, cm_rm, cm_mr, cm_mm]

theorem cu_iim {f : Nat} {b : Body} {g : Nat} {c : Body} {e e2 : Nat} {q1 p1 r1 p2 : Step} (h1 : commuted (ins f b) (ins g c) = some (q1, p1)) (h2 : commuted p1 (Step.move e e2) = some (r1, p2)) : Cu (ins f b) (ins g c) (Step.move e e2) q1 r1 p2 := by
  obtain ⟨b1, c1, rfl, rfl, w1⟩ := ii_some h1
  clear h1
  all_goals (simp only [cm_ii, cm_ir, cm_ri, cm_rr, cm_im, cm_mi, cm_rm, cm_mr, cm_mm] at h2)
  all_goals (repeat' split at h2)
  all_goals (first | contradiction | skip)
  all_goals (simp only [Option.some.injEq, Prod.mk.injEq] at h2; obtain ⟨rfl, rfl⟩ := h2)
  all_goals (unfold Cu; simp only [cm_ii, cm_ir, cm_ri, cm_rr, cm_im, cm_mi, cm_rm, cm_mr, cm_mm])
  all_goals grind [cm_ii, cm_ir, cm_ri, cm_rr, cm_im, cm_mi, cm_rm, cm_mr, cm_mm]

theorem cu_iri {f : Nat} {b : Body} {g : Nat} {kg : Bool} {e : Nat} {d : Body} {q1 p1 r1 p2 : Step} (h1 : commuted (ins f b) (rig kg g) = some (q1, p1)) (h2 : commuted p1 (ins e d) = some (r1, p2)) : Cu (ins f b) (rig kg g) (ins e d) q1 r1 p2 := by
  simp only [cm_ii, cm_ir, cm_ri, cm_rr, cm_im, cm_mi, cm_rm, cm_mr, cm_mm] at h1
  (repeat' split at h1) <;> first | contradiction | skip
  all_goals (simp only [Option.some.injEq, Prod.mk.injEq] at h1; obtain ⟨rfl, rfl⟩ := h1)
  all_goals (obtain ⟨b3, d1, rfl, rfl, w2⟩ := ii_some h2; clear h2)
  all_goals (unfold Cu; simp only [cm_ii, cm_ir, cm_ri, cm_rr, cm_im, cm_mi, cm_rm, cm_mr, cm_mm])
  all_goals grind [cm_ii, cm_ir, cm_ri, cm_rr, cm_im, cm_mi, cm_rm, cm_mr, cm_mm]

theorem cu_irr {f : Nat} {b : Body} {g : Nat} {kg : Bool} {e : Nat} {ke : Bool} {q1 p1 r1 p2 : Step} (h1 : commuted (ins f b) (rig kg g) = some (q1, p1)) (h2 : commuted p1 (rig ke e) = some (r1, p2)) : Cu (ins f b) (rig kg g) (rig ke e) q1 r1 p2 := by
  simp only [cm_ii, cm_ir, cm_ri, cm_rr, cm_im, cm_mi, cm_rm, cm_mr, cm_mm] at h1
  (repeat' split at h1) <;> first | contradiction | skip
  all_goals (simp only [Option.some.injEq, Prod.mk.injEq] at h1; obtain ⟨rfl, rfl⟩ := h1)
  all_goals (simp only [cm_ii, cm_ir, cm_ri, cm_rr, cm_im, cm_mi, cm_rm, cm_mr, cm_mm] at h2)
  all_goals (repeat' split at h2)
  all_goals (first | contradiction | skip)
  all_goals (simp only [Option.some.injEq, Prod.mk.injEq] at h2; obtain ⟨rfl, rfl⟩ := h2)
  all_goals (unfold Cu; simp only [cm_ii, cm_ir, cm_ri, cm_rr, cm_im, cm_mi, cm_rm, cm_mr, cm_mm])
  all_goals grind [cm_ii, cm_ir, cm_ri, cm_rr, cm_im, cm_mi, cm_rm, cm_mr, cm_mm]

theorem cu_irm {f : Nat} {b : Body} {g : Nat} {kg : Bool} {e e2 : Nat} {q1 p1 r1 p2 : Step} (h1 : commuted (ins f b) (rig kg g) = some (q1, p1)) (h2 : commuted p1 (Step.move e e2) = some (r1, p2)) : Cu (ins f b) (rig kg g) (Step.move e e2) q1 r1 p2 := by
  simp only [cm_ii, cm_ir, cm_ri, cm_rr, cm_im, cm_mi, cm_rm, cm_mr, cm_mm] at h1
  (repeat' split at h1) <;> first | contradiction | skip
  all_goals (simp only [Option.some.injEq, Prod.mk.injEq] at h1; obtain ⟨rfl, rfl⟩ := h1)
  all_goals (simp only [cm_ii, cm_ir, cm_ri, cm_rr, cm_im, cm_mi, cm_rm, cm_mr, cm_mm] at h2)
  all_goals (repeat' split at h2)
  all_goals (first | contradiction | skip)
  all_goals (simp only [Option.some.injEq, Prod.mk.injEq] at h2; obtain ⟨rfl, rfl⟩ := h2)
  all_goals (unfold Cu; simp only [cm_ii, cm_ir, cm_ri, cm_rr, cm_im, cm_mi, cm_rm, cm_mr, cm_mm])
  all_goals grind [cm_ii, cm_ir, cm_ri, cm_rr, cm_im, cm_mi, cm_rm, cm_mr, cm_mm]

theorem cu_imi {f : Nat} {b : Body} {g g2 : Nat} {e : Nat} {d : Body} {q1 p1 r1 p2 : Step} (h1 : commuted (ins f b) (Step.move g g2) = some (q1, p1)) (h2 : commuted p1 (ins e d) = some (r1, p2)) : Cu (ins f b) (Step.move g g2) (ins e d) q1 r1 p2 := by
  simp only [cm_ii, cm_ir, cm_ri, cm_rr, cm_im, cm_mi, cm_rm, cm_mr, cm_mm] at h1
  (repeat' split at h1) <;> first | contradiction | skip
  all_goals (simp only [Option.some.injEq, Prod.mk.injEq] at h1; obtain ⟨rfl, rfl⟩ := h1)
  all_goals (obtain ⟨b3, d1, rfl, rfl, w2⟩ := ii_some h2; clear h2)
  all_goals (unfold Cu; simp only [cm_ii, cm_ir, cm_ri, cm_rr, cm_im, cm_mi, cm_rm, cm_mr, cm_mm])
  all_goals grind [cm_ii, cm_ir, cm_ri, cm_rr, cm_im, cm_mi, cm_rm, cm_mr, cm_mm]

theorem cu_imr {f : Nat} {b : Body} {g g2 : Nat} {e : Nat} {ke : Bool} {q1 p1 r1 p2 : Step} (h1 : commuted (ins f b) (Step.move g g2) = some (q1, p1)) (h2 : commuted p1 (rig ke e) = some (r1, p2)) : Cu (ins f b) (Step.move g g2) (rig ke e) q1 r1 p2 := by
  simp only [cm_ii, cm_ir, cm_ri, cm_rr, cm_im, cm_mi, cm_rm, cm_mr, cm_mm] at h1
  (repeat' split at h1) <;> first | contradiction | skip
  all_goals (simp only [Option.some.injEq, Prod.mk.injEq] at h1; obtain ⟨rfl, rfl⟩ := h1)
  all_goals (simp only [cm_ii, cm_ir, cm_ri, cm_rr, cm_im, cm_mi, cm_rm, cm_mr, cm_mm] at h2)
  all_goals (repeat' split at h2)
  all_goals (first | contradiction | skip)
  all_goals (simp only [Option.some.injEq, Prod.mk.injEq] at h2; obtain ⟨rfl, rfl⟩ := h2)
  all_goals (unfold Cu; simp only [cm_ii, cm_ir, cm_ri, cm_rr, cm_im, cm_mi, cm_rm, cm_mr, cm_mm])
  all_goals grind [cm_ii, cm_ir, cm_ri, cm_rr, cm_im, cm_mi, cm_rm, cm_mr, cm_mm]

theorem cu_imm {f : Nat} {b : Body} {g g2 : Nat} {e e2 : Nat} {q1 p1 r1 p2 : Step} (h1 : commuted (ins f b) (Step.move g g2) = some (q1, p1)) (h2 : commuted p1 (Step.move e e2) = some (r1, p2)) : Cu (ins f b) (Step.move g g2) (Step.move e e2) q1 r1 p2 := by
  simp only [cm_ii, cm_ir, cm_ri, cm_rr, cm_im, cm_mi, cm_rm, cm_mr, cm_mm] at h1
  (repeat' split at h1) <;> first | contradiction | skip
  all_goals (simp only [Option.some.injEq, Prod.mk.injEq] at h1; obtain ⟨rfl, rfl⟩ := h1)
  all_goals (simp only [cm_ii, cm_ir, cm_ri, cm_rr, cm_im, cm_mi, cm_rm, cm_mr, cm_mm] at h2)
  all_goals (repeat' split at h2)
  all_goals (first | contradiction | skip)
  all_goals (simp only [Option.some.injEq, Prod.mk.injEq] at h2; obtain ⟨rfl, rfl⟩ := h2)
  all_goals (unfold Cu; simp only [cm_ii, cm_ir, cm_ri, cm_rr, cm_im, cm_mi, cm_rm, cm_mr, cm_mm])
  all_goals grind [cm_ii, cm_ir, cm_ri, cm_rr, cm_im, cm_mi, cm_rm, cm_mr, cm_mm]

theorem cu_rii {f : Nat} {kf : Bool} {g : Nat} {c : Body} {e : Nat} {d : Body} {q1 p1 r1 p2 : Step} (h1 : commuted (rig kf f) (ins g c) = some (q1, p1)) (h2 : commuted p1 (ins e d) = some (r1, p2)) : Cu (rig kf f) (ins g c) (ins e d) q1 r1 p2 := by
  simp only [cm_ii, cm_ir, cm_ri, cm_rr, cm_im, cm_mi, cm_rm, cm_mr, cm_mm] at h1
  (repeat' split at h1) <;> first | contradiction | skip
  all_goals (simp only [Option.some.injEq, Prod.mk.injEq] at h1; obtain ⟨rfl, rfl⟩ := h1)
  all_goals (simp only [cm_ii, cm_ir, cm_ri, cm_rr, cm_im, cm_mi, cm_rm, cm_mr, cm_mm] at h2)
  all_goals (repeat' split at h2)
  all_goals (first | contradiction | skip)
  all_goals (simp only [Option.some.injEq, Prod.mk.injEq] at h2; obtain ⟨rfl, rfl⟩ := h2)
  all_goals (unfold Cu; simp only [cm_ii, cm_ir, cm_ri, cm_rr, cm_im, cm_mi, cm_rm, cm_mr, cm_mm])
  all_goals (by_cases hfe : f = e <;> by_cases hge : g = e <;> (try subst hge) <;> cases hbc : bcomm c d <;> simp_all [cm_ii, cm_ir, cm_ri, cm_rr, cm_im, cm_mi, cm_rm, cm_mr, cm_mm] <;> grind)

theorem cu_rir {f : Nat} {kf : Bool} {g : Nat} {c : Body} {e : Nat} {ke : Bool} {q1 p1 r1 p2 : Step} (h1 : commuted (rig kf f) (ins g c) = some (q1, p1)) (h2 : commuted p1 (rig ke e) = some (r1, p2)) : Cu (rig kf f) (ins g c) (rig ke e) q1 r1 p2 := by
  simp only [cm_ii, cm_ir, cm_ri, cm_rr, cm_im, cm_mi, cm_rm, cm_mr, cm_mm] at h1
  (repeat' split at h1) <;> first | contradiction | skip
  all_goals (simp only [Option.some.injEq, Prod.mk.injEq] at h1; obtain ⟨rfl, rfl⟩ := h1)
  all_goals (simp only [cm_ii, cm_ir, cm_ri, cm_rr, cm_im, cm_mi, cm_rm, cm_mr, cm_mm] at h2)
  all_goals (repeat' split at h2)
  all_goals (first | contradiction | skip)
  all_goals (simp only [Option.some.injEq, Prod.mk.injEq] at h2; obtain ⟨rfl, rfl⟩ := h2)
  all_goals (unfold Cu; simp only [cm_ii, cm_ir, cm_ri, cm_rr, cm_im, cm_mi, cm_rm, cm_mr, cm_mm])
  all_goals grind [cm_ii, cm_ir, cm_ri, cm_rr, cm_im, cm_mi, cm_rm, cm_mr, cm_mm]

theorem cu_rim {f : Nat} {kf : Bool} {g : Nat} {c : Body} {e e2 : Nat} {q1 p1 r1 p2 : Step} (h1 : commuted (rig kf f) (ins g c) = some (q1, p1)) (h2 : commuted p1 (Step.move e e2) = some (r1, p2)) : Cu (rig kf f) (ins g c) (Step.move e e2) q1 r1 p2 := by
  simp only [cm_ii, cm_ir, cm_ri, cm_rr, cm_im, cm_mi, cm_rm, cm_mr, cm_mm] at h1
  (repeat' split at h1) <;> first | contradiction | skip
  all_goals (simp only [Option.some.injEq, Prod.mk.injEq] at h1; obtain ⟨rfl, rfl⟩ := h1)
  all_goals (simp only [cm_ii, cm_ir, cm_ri, cm_rr, cm_im, cm_mi, cm_rm, cm_mr, cm_mm] at h2)
  all_goals (repeat' split at h2)
  all_goals (first | contradiction | skip)
  all_goals (simp only [Option.some.injEq, Prod.mk.injEq] at h2; obtain ⟨rfl, rfl⟩ := h2)
  all_goals (unfold Cu; simp only [cm_ii, cm_ir, cm_ri, cm_rr, cm_im, cm_mi, cm_rm, cm_mr, cm_mm])
  all_goals grind [cm_ii, cm_ir, cm_ri, cm_rr, cm_im, cm_mi, cm_rm, cm_mr, cm_mm]

theorem cu_rri {f : Nat} {kf : Bool} {g : Nat} {kg : Bool} {e : Nat} {d : Body} {q1 p1 r1 p2 : Step} (h1 : commuted (rig kf f) (rig kg g) = some (q1, p1)) (h2 : commuted p1 (ins e d) = some (r1, p2)) : Cu (rig kf f) (rig kg g) (ins e d) q1 r1 p2 := by
  simp only [cm_ii, cm_ir, cm_ri, cm_rr, cm_im, cm_mi, cm_rm, cm_mr, cm_mm] at h1
  (repeat' split at h1) <;> first | contradiction | skip
  all_goals (simp only [Option.some.injEq, Prod.mk.injEq] at h1; obtain ⟨rfl, rfl⟩ := h1)
  all_goals (simp only [cm_ii, cm_ir, cm_ri, cm_rr, cm_im, cm_mi, cm_rm, cm_mr, cm_mm] at h2)
  all_goals (repeat' split at h2)
  all_goals (first | contradiction | skip)
  all_goals (simp only [Option.some.injEq, Prod.mk.injEq] at h2; obtain ⟨rfl, rfl⟩ := h2)
  all_goals (unfold Cu; simp only [cm_ii, cm_ir, cm_ri, cm_rr, cm_im, cm_mi, cm_rm, cm_mr, cm_mm])
  all_goals grind [cm_ii, cm_ir, cm_ri, cm_rr, cm_im, cm_mi, cm_rm, cm_mr, cm_mm]

theorem cu_rrr {f : Nat} {kf : Bool} {g : Nat} {kg : Bool} {e : Nat} {ke : Bool} {q1 p1 r1 p2 : Step} (h1 : commuted (rig kf f) (rig kg g) = some (q1, p1)) (h2 : commuted p1 (rig ke e) = some (r1, p2)) : Cu (rig kf f) (rig kg g) (rig ke e) q1 r1 p2 := by
  simp only [cm_ii, cm_ir, cm_ri, cm_rr, cm_im, cm_mi, cm_rm, cm_mr, cm_mm] at h1
  (repeat' split at h1) <;> first | contradiction | skip
  all_goals (simp only [Option.some.injEq, Prod.mk.injEq] at h1; obtain ⟨rfl, rfl⟩ := h1)
  all_goals (simp only [cm_ii, cm_ir, cm_ri, cm_rr, cm_im, cm_mi, cm_rm, cm_mr, cm_mm] at h2)
  all_goals (repeat' split at h2)
  all_goals (first | contradiction | skip)
  all_goals (simp only [Option.some.injEq, Prod.mk.injEq] at h2; obtain ⟨rfl, rfl⟩ := h2)
  all_goals (unfold Cu; simp only [cm_ii, cm_ir, cm_ri, cm_rr, cm_im, cm_mi, cm_rm, cm_mr, cm_mm])
  all_goals grind [cm_ii, cm_ir, cm_ri, cm_rr, cm_im, cm_mi, cm_rm, cm_mr, cm_mm]

theorem cu_rrm {f : Nat} {kf : Bool} {g : Nat} {kg : Bool} {e e2 : Nat} {q1 p1 r1 p2 : Step} (h1 : commuted (rig kf f) (rig kg g) = some (q1, p1)) (h2 : commuted p1 (Step.move e e2) = some (r1, p2)) : Cu (rig kf f) (rig kg g) (Step.move e e2) q1 r1 p2 := by
  simp only [cm_ii, cm_ir, cm_ri, cm_rr, cm_im, cm_mi, cm_rm, cm_mr, cm_mm] at h1
  (repeat' split at h1) <;> first | contradiction | skip
  all_goals (simp only [Option.some.injEq, Prod.mk.injEq] at h1; obtain ⟨rfl, rfl⟩ := h1)
  all_goals (simp only [cm_ii, cm_ir, cm_ri, cm_rr, cm_im, cm_mi, cm_rm, cm_mr, cm_mm] at h2)
  all_goals (repeat' split at h2)
  all_goals (first | contradiction | skip)
  all_goals (simp only [Option.some.injEq, Prod.mk.injEq] at h2; obtain ⟨rfl, rfl⟩ := h2)
  all_goals (unfold Cu; simp only [cm_ii, cm_ir, cm_ri, cm_rr, cm_im, cm_mi, cm_rm, cm_mr, cm_mm])
  all_goals grind [cm_ii, cm_ir, cm_ri, cm_rr, cm_im, cm_mi, cm_rm, cm_mr, cm_mm]

theorem cu_rmi {f : Nat} {kf : Bool} {g g2 : Nat} {e : Nat} {d : Body} {q1 p1 r1 p2 : Step} (h1 : commuted (rig kf f) (Step.move g g2) = some (q1, p1)) (h2 : commuted p1 (ins e d) = some (r1, p2)) : Cu (rig kf f) (Step.move g g2) (ins e d) q1 r1 p2 := by
  simp only [cm_ii, cm_ir, cm_ri, cm_rr, cm_im, cm_mi, cm_rm, cm_mr, cm_mm] at h1
  (repeat' split at h1) <;> first | contradiction | skip
  all_goals (simp only [Option.some.injEq, Prod.mk.injEq] at h1; obtain ⟨rfl, rfl⟩ := h1)
  all_goals (simp only [cm_ii, cm_ir, cm_ri, cm_rr, cm_im, cm_mi, cm_rm, cm_mr, cm_mm] at h2)
  all_goals (repeat' split at h2)
  all_goals (first | contradiction | skip)
  all_goals (simp only [Option.some.injEq, Prod.mk.injEq] at h2; obtain ⟨rfl, rfl⟩ := h2)
  all_goals (unfold Cu; simp only [cm_ii, cm_ir, cm_ri, cm_rr, cm_im, cm_mi, cm_rm, cm_mr, cm_mm])
  all_goals grind [cm_ii, cm_ir, cm_ri, cm_rr, cm_im, cm_mi, cm_rm, cm_mr, cm_mm]

theorem cu_rmr {f : Nat} {kf : Bool} {g g2 : Nat} {e : Nat} {ke : Bool} {q1 p1 r1 p2 : Step} (h1 : commuted (rig kf f) (Step.move g g2) = some (q1, p1)) (h2 : commuted p1 (rig ke e) = some (r1, p2)) : Cu (rig kf f) (Step.move g g2) (rig ke e) q1 r1 p2 := by
  simp only [cm_ii, cm_ir, cm_ri, cm_rr, cm_im, cm_mi, cm_rm, cm_mr, cm_mm] at h1
  (repeat' split at h1) <;> first | contradiction | skip
  all_goals (simp only [Option.some.injEq, Prod.mk.injEq] at h1; obtain ⟨rfl, rfl⟩ := h1)
  all_goals (simp only [cm_ii, cm_ir, cm_ri, cm_rr, cm_im, cm_mi, cm_rm, cm_mr, cm_mm] at h2)
  all_goals (repeat' split at h2)
  all_goals (first | contradiction | skip)
  all_goals (simp only [Option.some.injEq, Prod.mk.injEq] at h2; obtain ⟨rfl, rfl⟩ := h2)
  all_goals (unfold Cu; simp only [cm_ii, cm_ir, cm_ri, cm_rr, cm_im, cm_mi, cm_rm, cm_mr, cm_mm])
  all_goals grind [cm_ii, cm_ir, cm_ri, cm_rr, cm_im, cm_mi, cm_rm, cm_mr, cm_mm]

theorem cu_rmm {f : Nat} {kf : Bool} {g g2 : Nat} {e e2 : Nat} {q1 p1 r1 p2 : Step} (h1 : commuted (rig kf f) (Step.move g g2) = some (q1, p1)) (h2 : commuted p1 (Step.move e e2) = some (r1, p2)) : Cu (rig kf f) (Step.move g g2) (Step.move e e2) q1 r1 p2 := by
  simp only [cm_ii, cm_ir, cm_ri, cm_rr, cm_im, cm_mi, cm_rm, cm_mr, cm_mm] at h1
  (repeat' split at h1) <;> first | contradiction | skip
  all_goals (simp only [Option.some.injEq, Prod.mk.injEq] at h1; obtain ⟨rfl, rfl⟩ := h1)
  all_goals (simp only [cm_ii, cm_ir, cm_ri, cm_rr, cm_im, cm_mi, cm_rm, cm_mr, cm_mm] at h2)
  all_goals (repeat' split at h2)
  all_goals (first | contradiction | skip)
  all_goals (simp only [Option.some.injEq, Prod.mk.injEq] at h2; obtain ⟨rfl, rfl⟩ := h2)
  all_goals (unfold Cu; simp only [cm_ii, cm_ir, cm_ri, cm_rr, cm_im, cm_mi, cm_rm, cm_mr, cm_mm])
  all_goals grind [cm_ii, cm_ir, cm_ri, cm_rr, cm_im, cm_mi, cm_rm, cm_mr, cm_mm]

theorem cu_mii {f f2 : Nat} {g : Nat} {c : Body} {e : Nat} {d : Body} {q1 p1 r1 p2 : Step} (h1 : commuted (Step.move f f2) (ins g c) = some (q1, p1)) (h2 : commuted p1 (ins e d) = some (r1, p2)) : Cu (Step.move f f2) (ins g c) (ins e d) q1 r1 p2 := by
  simp only [cm_ii, cm_ir, cm_ri, cm_rr, cm_im, cm_mi, cm_rm, cm_mr, cm_mm] at h1
  (repeat' split at h1) <;> first | contradiction | skip
  all_goals (simp only [Option.some.injEq, Prod.mk.injEq] at h1; obtain ⟨rfl, rfl⟩ := h1)
  all_goals (simp only [cm_ii, cm_ir, cm_ri, cm_rr, cm_im, cm_mi, cm_rm, cm_mr, cm_mm] at h2)
  all_goals (repeat' split at h2)
  all_goals (first | contradiction | skip)
  all_goals (simp only [Option.some.injEq, Prod.mk.injEq] at h2; obtain ⟨rfl, rfl⟩ := h2)
  all_goals (unfold Cu; simp only [cm_ii, cm_ir, cm_ri, cm_rr, cm_im, cm_mi, cm_rm, cm_mr, cm_mm])
  all_goals (by_cases hfe : f = e <;> by_cases hge : g = e <;> (try subst hge) <;> cases hbc : bcomm c d <;> simp_all [cm_ii, cm_ir, cm_ri, cm_rr, cm_im, cm_mi, cm_rm, cm_mr, cm_mm] <;> grind)

theorem cu_mir {f f2 : Nat} {g : Nat} {c : Body} {e : Nat} {ke : Bool} {q1 p1 r1 p2 : Step} (h1 : commuted (Step.move f f2) (ins g c) = some (q1, p1)) (h2 : commuted p1 (rig ke e) = some (r1, p2)) : Cu (Step.move f f2) (ins g c) (rig ke e) q1 r1 p2 := by
  simp only [cm_ii, cm_ir, cm_ri, cm_rr, cm_im, cm_mi, cm_rm, cm_mr, cm_mm] at h1
  (repeat' split at h1) <;> first | contradiction | skip
  all_goals (simp only [Option.some.injEq, Prod.mk.injEq] at h1; obtain ⟨rfl, rfl⟩ := h1)
  all_goals (simp only [cm_ii, cm_ir, cm_ri, cm_rr, cm_im, cm_mi, cm_rm, cm_mr, cm_mm] at h2)
  all_goals (repeat' split at h2)
  all_goals (first | contradiction | skip)
  all_goals (simp only [Option.some.injEq, Prod.mk.injEq] at h2; obtain ⟨rfl, rfl⟩ := h2)
  all_goals (unfold Cu; simp only [cm_ii, cm_ir, cm_ri, cm_rr, cm_im, cm_mi, cm_rm, cm_mr, cm_mm])
  all_goals grind [cm_ii, cm_ir, cm_ri, cm_rr, cm_im, cm_mi, cm_rm, cm_mr, cm_mm]

theorem cu_mim {f f2 : Nat} {g : Nat} {c : Body} {e e2 : Nat} {q1 p1 r1 p2 : Step} (h1 : commuted (Step.move f f2) (ins g c) = some (q1, p1)) (h2 : commuted p1 (Step.move e e2) = some (r1, p2)) : Cu (Step.move f f2) (ins g c) (Step.move e e2) q1 r1 p2 := by
  simp only [cm_ii, cm_ir, cm_ri, cm_rr, cm_im, cm_mi, cm_rm, cm_mr, cm_mm] at h1
  (repeat' split at h1) <;> first | contradiction | skip
  all_goals (simp only [Option.some.injEq, Prod.mk.injEq] at h1; obtain ⟨rfl, rfl⟩ := h1)
  all_goals (simp only [cm_ii, cm_ir, cm_ri, cm_rr, cm_im, cm_mi, cm_rm, cm_mr, cm_mm] at h2)
  all_goals (repeat' split at h2)
  all_goals (first | contradiction | skip)
  all_goals (simp only [Option.some.injEq, Prod.mk.injEq] at h2; obtain ⟨rfl, rfl⟩ := h2)
  all_goals (unfold Cu; simp only [cm_ii, cm_ir, cm_ri, cm_rr, cm_im, cm_mi, cm_rm, cm_mr, cm_mm])
  all_goals grind [cm_ii, cm_ir, cm_ri, cm_rr, cm_im, cm_mi, cm_rm, cm_mr, cm_mm]

theorem cu_mri {f f2 : Nat} {g : Nat} {kg : Bool} {e : Nat} {d : Body} {q1 p1 r1 p2 : Step} (h1 : commuted (Step.move f f2) (rig kg g) = some (q1, p1)) (h2 : commuted p1 (ins e d) = some (r1, p2)) : Cu (Step.move f f2) (rig kg g) (ins e d) q1 r1 p2 := by
  simp only [cm_ii, cm_ir, cm_ri, cm_rr, cm_im, cm_mi, cm_rm, cm_mr, cm_mm] at h1
  (repeat' split at h1) <;> first | contradiction | skip
  all_goals (simp only [Option.some.injEq, Prod.mk.injEq] at h1; obtain ⟨rfl, rfl⟩ := h1)
  all_goals (simp only [cm_ii, cm_ir, cm_ri, cm_rr, cm_im, cm_mi, cm_rm, cm_mr, cm_mm] at h2)
  all_goals (repeat' split at h2)
  all_goals (first | contradiction | skip)
  all_goals (simp only [Option.some.injEq, Prod.mk.injEq] at h2; obtain ⟨rfl, rfl⟩ := h2)
  all_goals (unfold Cu; simp only [cm_ii, cm_ir, cm_ri, cm_rr, cm_im, cm_mi, cm_rm, cm_mr, cm_mm])
  all_goals grind [cm_ii, cm_ir, cm_ri, cm_rr, cm_im, cm_mi, cm_rm, cm_mr, cm_mm]

theorem cu_mrr {f f2 : Nat} {g : Nat} {kg : Bool} {e : Nat} {ke : Bool} {q1 p1 r1 p2 : Step} (h1 : commuted (Step.move f f2) (rig kg g) = some (q1, p1)) (h2 : commuted p1 (rig ke e) = some (r1, p2)) : Cu (Step.move f f2) (rig kg g) (rig ke e) q1 r1 p2 := by
  simp only [cm_ii, cm_ir, cm_ri, cm_rr, cm_im, cm_mi, cm_rm, cm_mr, cm_mm] at h1
  (repeat' split at h1) <;> first | contradiction | skip
  all_goals (simp only [Option.some.injEq, Prod.mk.injEq] at h1; obtain ⟨rfl, rfl⟩ := h1)
  all_goals (simp only [cm_ii, cm_ir, cm_ri, cm_rr, cm_im, cm_mi, cm_rm, cm_mr, cm_mm] at h2)
  all_goals (repeat' split at h2)
  all_goals (first | contradiction | skip)
  all_goals (simp only [Option.some.injEq, Prod.mk.injEq] at h2; obtain ⟨rfl, rfl⟩ := h2)
  all_goals (unfold Cu; simp only [cm_ii, cm_ir, cm_ri, cm_rr, cm_im, cm_mi, cm_rm, cm_mr, cm_mm])
  all_goals grind [cm_ii, cm_ir, cm_ri, cm_rr, cm_im, cm_mi, cm_rm, cm_mr, cm_mm]

theorem cu_mrm {f f2 : Nat} {g : Nat} {kg : Bool} {e e2 : Nat} {q1 p1 r1 p2 : Step} (h1 : commuted (Step.move f f2) (rig kg g) = some (q1, p1)) (h2 : commuted p1 (Step.move e e2) = some (r1, p2)) : Cu (Step.move f f2) (rig kg g) (Step.move e e2) q1 r1 p2 := by
  simp only [cm_ii, cm_ir, cm_ri, cm_rr, cm_im, cm_mi, cm_rm, cm_mr, cm_mm] at h1
  (repeat' split at h1) <;> first | contradiction | skip
  all_goals (simp only [Option.some.injEq, Prod.mk.injEq] at h1; obtain ⟨rfl, rfl⟩ := h1)
  all_goals (simp only [cm_ii, cm_ir, cm_ri, cm_rr, cm_im, cm_mi, cm_rm, cm_mr, cm_mm] at h2)
  all_goals (repeat' split at h2)
  all_goals (first | contradiction | skip)
  all_goals (simp only [Option.some.injEq, Prod.mk.injEq] at h2; obtain ⟨rfl, rfl⟩ := h2)
  all_goals (unfold Cu; simp only [cm_ii, cm_ir, cm_ri, cm_rr, cm_im, cm_mi, cm_rm, cm_mr, cm_mm])
  all_goals grind [cm_ii, cm_ir, cm_ri, cm_rr, cm_im, cm_mi, cm_rm, cm_mr, cm_mm]

theorem cu_mmi {f f2 : Nat} {g g2 : Nat} {e : Nat} {d : Body} {q1 p1 r1 p2 : Step} (h1 : commuted (Step.move f f2) (Step.move g g2) = some (q1, p1)) (h2 : commuted p1 (ins e d) = some (r1, p2)) : Cu (Step.move f f2) (Step.move g g2) (ins e d) q1 r1 p2 := by
  simp only [cm_ii, cm_ir, cm_ri, cm_rr, cm_im, cm_mi, cm_rm, cm_mr, cm_mm] at h1
  (repeat' split at h1) <;> first | contradiction | skip
  all_goals (simp only [Option.some.injEq, Prod.mk.injEq] at h1; obtain ⟨rfl, rfl⟩ := h1)
  all_goals (simp only [cm_ii, cm_ir, cm_ri, cm_rr, cm_im, cm_mi, cm_rm, cm_mr, cm_mm] at h2)
  all_goals (repeat' split at h2)
  all_goals (first | contradiction | skip)
  all_goals (simp only [Option.some.injEq, Prod.mk.injEq] at h2; obtain ⟨rfl, rfl⟩ := h2)
  all_goals (unfold Cu; simp only [cm_ii, cm_ir, cm_ri, cm_rr, cm_im, cm_mi, cm_rm, cm_mr, cm_mm])
  all_goals grind [cm_ii, cm_ir, cm_ri, cm_rr, cm_im, cm_mi, cm_rm, cm_mr, cm_mm]

theorem cu_mmr {f f2 : Nat} {g g2 : Nat} {e : Nat} {ke : Bool} {q1 p1 r1 p2 : Step} (h1 : commuted (Step.move f f2) (Step.move g g2) = some (q1, p1)) (h2 : commuted p1 (rig ke e) = some (r1, p2)) : Cu (Step.move f f2) (Step.move g g2) (rig ke e) q1 r1 p2 := by
  simp only [cm_ii, cm_ir, cm_ri, cm_rr, cm_im, cm_mi, cm_rm, cm_mr, cm_mm] at h1
  (repeat' split at h1) <;> first | contradiction | skip
  all_goals (simp only [Option.some.injEq, Prod.mk.injEq] at h1; obtain ⟨rfl, rfl⟩ := h1)
  all_goals (simp only [cm_ii, cm_ir, cm_ri, cm_rr, cm_im, cm_mi, cm_rm, cm_mr, cm_mm] at h2)
  all_goals (repeat' split at h2)
  all_goals (first | contradiction | skip)
  all_goals (simp only [Option.some.injEq, Prod.mk.injEq] at h2; obtain ⟨rfl, rfl⟩ := h2)
  all_goals (unfold Cu; simp only [cm_ii, cm_ir, cm_ri, cm_rr, cm_im, cm_mi, cm_rm, cm_mr, cm_mm])
  all_goals grind [cm_ii, cm_ir, cm_ri, cm_rr, cm_im, cm_mi, cm_rm, cm_mr, cm_mm]

theorem cu_mmm {f f2 : Nat} {g g2 : Nat} {e e2 : Nat} {q1 p1 r1 p2 : Step} (h1 : commuted (Step.move f f2) (Step.move g g2) = some (q1, p1)) (h2 : commuted p1 (Step.move e e2) = some (r1, p2)) : Cu (Step.move f f2) (Step.move g g2) (Step.move e e2) q1 r1 p2 := by
  simp only [cm_ii, cm_ir, cm_ri, cm_rr, cm_im, cm_mi, cm_rm, cm_mr, cm_mm] at h1
  (repeat' split at h1) <;> first | contradiction | skip
  all_goals (simp only [Option.some.injEq, Prod.mk.injEq] at h1; obtain ⟨rfl, rfl⟩ := h1)
  all_goals (simp only [cm_ii, cm_ir, cm_ri, cm_rr, cm_im, cm_mi, cm_rm, cm_mr, cm_mm] at h2)
  all_goals (repeat' split at h2)
  all_goals (first | contradiction | skip)
  all_goals (simp only [Option.some.injEq, Prod.mk.injEq] at h2; obtain ⟨rfl, rfl⟩ := h2)
  all_goals (unfold Cu; simp only [cm_ii, cm_ir, cm_ri, cm_rr, cm_im, cm_mi, cm_rm, cm_mr, cm_mm])
  all_goals grind [cm_ii, cm_ir, cm_ri, cm_rr, cm_im, cm_mi, cm_rm, cm_mr, cm_mm]
/-- three steps: two faces that share the first one -/
theorem s_cube {p q r q1 p1 r1 p2 : Step} (h1 : commuted p q = some (q1, p1)) (h2 : commuted p1 r = some (r1, p2)) :
    (commuted q r = none ∧ commuted q1 r1 = none) ∨ ∃ r' q' r1' q1' p1', commuted q r = some (r', q') ∧ commuted q1 r1 = some (r1', q1') ∧ commuted p r' = some (r1', p1') ∧ commuted p1' q' = some (q1', p2) := by
  rcases view p with ⟨f, b, rfl⟩ | ⟨k, f, rfl⟩ | ⟨f, f', rfl⟩ <;> rcases view q with ⟨g, c, rfl⟩ | ⟨l, g, rfl⟩ | ⟨g, g', rfl⟩ <;> rcases view r with ⟨e, d, rfl⟩ | ⟨m, e, rfl⟩ | ⟨e, e', rfl⟩
  · by_cases n : f = g ∧ f = e
    · obtain ⟨rfl, rfl⟩ := n
      rw [cm_ii, if_pos rfl] at h1
      cases k1 : bcomm b c with
      | none => rw [k1] at h1; cases h1
      | some r1 =>
        rw [k1] at h1
        simp only [Option.map_some, Option.some.injEq, Prod.mk.injEq] at h1
        obtain ⟨rfl, rfl⟩ := h1
        rw [cm_ii, if_pos rfl] at h2
        cases k2 : bcomm r1.2 d with
        | none => rw [k2] at h2; cases h2
        | some r2 =>
          rw [k2] at h2
          simp only [Option.map_some, Option.some.injEq, Prod.mk.injEq] at h2
          obtain ⟨rfl, rfl⟩ := h2
          simp only [cm_ii, if_true]
          rcases b_cube k1 k2 with ⟨k3, k4⟩ | ⟨r', q', r1', q1', p1', k3, k4, k5, k6⟩
          · exact .inl ⟨by rw [k3]; rfl, by rw [k4]; rfl⟩
          · refine .inr ⟨ins f r', ins f q', ins f r1', ins f q1', ins f p1', by rw [k3]; rfl, by rw [k4]; rfl, ?_, ?_⟩
            · rw [cm_ii, if_pos rfl, k5]; rfl
            · rw [cm_ii, if_pos rfl, k6]; rfl
    · exact cu_of (cu_iii h1 h2 n)
  · exact cu_of (cu_iir h1 h2)
  · exact cu_of (cu_iim h1 h2)
  · exact cu_of (cu_iri h1 h2)
  · exact cu_of (cu_irr h1 h2)
  · exact cu_of (cu_irm h1 h2)
  · exact cu_of (cu_imi h1 h2)
  · exact cu_of (cu_imr h1 h2)
  · exact cu_of (cu_imm h1 h2)
  · exact cu_of (cu_rii h1 h2)
  · exact cu_of (cu_rir h1 h2)
  · exact cu_of (cu_rim h1 h2)
  · exact cu_of (cu_rri h1 h2)
  · exact cu_of (cu_rrr h1 h2)
  · exact cu_of (cu_rrm h1 h2)
  · exact cu_of (cu_rmi h1 h2)
  · exact cu_of (cu_rmr h1 h2)
  · exact cu_of (cu_rmm h1 h2)
  · exact cu_of (cu_mii h1 h2)
  · exact cu_of (cu_mir h1 h2)
  · exact cu_of (cu_mim h1 h2)
  · exact cu_of (cu_mri h1 h2)
  · exact cu_of (cu_mrr h1 h2)
  · exact cu_of (cu_mrm h1 h2)
  · exact cu_of (cu_mmi h1 h2)
  · exact cu_of (cu_mmr h1 h2)
  · exact cu_of (cu_mmm h1 h2)
#print axioms s_cube
end RM

/-! part RmRows -/
set_option linter.all false
namespace RM
open VapatBase
open Vapatb (aheadOf behind rowsCommuted)

/-! ### faces of the cube, in the forms that are wanted -/
theorem c_inv2 {p x x' p1 : Step} (h : commuted p x = some (x', p1)) : commuted p1 (turned x) = some (turned x', p) := s_sym (s_rot (s_sym h))
theorem c_inv12 {x y y1 x1 : Step} (h : commuted x y = some (y1, x1)) : commuted (turned x1) (turned y1) = some (turned y, turned x) := c_inv2 (s_rot h)
theorem c_flip {x d d1 u : Step} (h : commuted (turned x) d = some (d1, u)) : commuted (turned d) x = some (turned u, turned d1) := by
  have e := s_sym (s_rot (s_sym (s_rot (s_sym h))))
  rw [tn_tn] at e
  exact e
theorem cubeA {p q r q1 p1 r1 p2 r' q' : Step} (h1 : commuted p q = some (q1, p1)) (h2 : commuted p1 r = some (r1, p2)) (h3 : commuted q r = some (r', q')) :
    ∃ r1' q1' p1', commuted q1 r1 = some (r1', q1') ∧ commuted p r' = some (r1', p1') ∧ commuted p1' q' = some (q1', p2) := by
  rcases s_cube h1 h2 with ⟨k, _⟩ | ⟨a, b, c, d, e, k1, k2, k3, k4⟩
  · rw [h3] at k; cases k
  · rw [h3] at k1
    simp only [Option.some.injEq, Prod.mk.injEq] at k1
    obtain ⟨rfl, rfl⟩ := k1
    exact ⟨c, d, e, k2, k3, k4⟩
theorem cubeB {p q r q1 p1 r1 p2 r1' q1' : Step} (h1 : commuted p q = some (q1, p1)) (h2 : commuted p1 r = some (r1, p2)) (h3 : commuted q1 r1 = some (r1', q1')) :
    ∃ r' q' p1', commuted q r = some (r', q') ∧ commuted p r' = some (r1', p1') ∧ commuted p1' q' = some (q1', p2) := by
  rcases s_cube h1 h2 with ⟨_, k⟩ | ⟨a, b, c, d, e, k1, k2, k3, k4⟩
  · rw [h3] at k; cases k
  · rw [h3] at k2
    simp only [Option.some.injEq, Prod.mk.injEq] at k2
    obtain ⟨rfl, rfl⟩ := k2
    exact ⟨a, b, e, k1, k3, k4⟩
theorem cube3 {p x y x' p1 y1 x1 y1' p1' : Step} (h1 : commuted p x = some (x', p1)) (h2 : commuted x y = some (y1, x1)) (h3 : commuted p y1 = some (y1', p1')) :
    ∃ y' p2 x1', commuted p1 y = some (y', p2) ∧ commuted p1' x1 = some (x1', p2) ∧ commuted x' y' = some (y1', x1') := by
  obtain ⟨r1', q1', p2, k1, k2, k3⟩ := cubeA (c_inv2 h1) h3 (s_rot h2)
  refine ⟨r1', p2, turned q1', k2, ?_, ?_⟩
  · have := c_inv2 k3
    rw [tn_tn] at this
    exact this
  · have := s_rot k1
    rw [tn_tn] at this
    exact this
theorem cube4 {x y y1 x1 d d1 d2 u v : Step} (h1 : commuted x y = some (y1, x1)) (h2 : commuted (turned x) d = some (d1, u)) (h3 : commuted (turned y1) d = some (d2, v)) :
    ∃ d3 u' v', commuted (turned y) d1 = some (d3, v') ∧ commuted (turned x1) d2 = some (d3, u') ∧ commuted (turned u) (turned v') = some (turned v, turned u') := by
  obtain ⟨d3, v', u', k1, k2, k3⟩ := cubeA (c_inv12 h1) h2 h3
  exact ⟨d3, u', v', k1, k2, c_inv12 k3⟩
theorem cube5 {x y y1 x1 d d1 d2 u v : Step} (h1 : commuted x y = some (y1, x1)) (h2 : commuted (turned x) d = some (d1, u)) (h3 : commuted (turned y) d1 = some (d2, v)) :
    ∃ d' u' v', commuted (turned y1) d = some (d', v') ∧ commuted (turned x1) d' = some (d2, u') ∧ commuted (turned u) (turned v) = some (turned v', turned u') := by
  obtain ⟨r', q', p1', k1, k2, k3⟩ := cubeB (c_inv12 h1) h2 h3
  exact ⟨r', p1', q', k1, k2, c_inv12 k3⟩

/-! ### a step brought behind a row -/
inductive Bh : Step → List Step → List Step → Step → Prop where
  | nil {p : Step} : Bh p [] [] p
  | cons {p q q1 p1 p2 : Step} {l l1 : List Step} : commuted p q = some (q1, p1) → Bh p1 l l1 p2 → Bh p (q :: l) (q1 :: l1) p2
theorem bh_iff : ∀ (l : List Step) (p : Step) (l' : List Step) (p' : Step), behind p l = .ok (l', p') ↔ Bh p l l' p'
  | [], p, l', p' => by
    constructor
    · intro h
      simp only [behind, Except.ok.injEq, Prod.mk.injEq] at h
      obtain ⟨rfl, rfl⟩ := h
      exact .nil
    · intro h
      cases h
      rfl
  | q :: l, p, l', p' => by
    constructor
    · intro h
      simp only [behind] at h
      split at h
      · cases h
      · rename_i q1 p1 e
        split at h
        · cases h
        · rename_i l1 p2 e2
          simp only [Except.ok.injEq, Prod.mk.injEq] at h
          obtain ⟨rfl, rfl⟩ := h
          exact .cons e ((bh_iff l _ _ _).mp e2)
    · intro h
      cases h with
      | cons e h =>
        simp only [behind, e, (bh_iff l _ _ _).mpr h]
theorem Bh.det {p : Step} {l l1 l2 : List Step} {p1 p2 : Step} (h : Bh p l l1 p1) (k : Bh p l l2 p2) : l1 = l2 ∧ p1 = p2 := by
  have := ((bh_iff _ _ _ _).mpr h).symm.trans ((bh_iff _ _ _ _).mpr k)
  simp only [Except.ok.injEq, Prod.mk.injEq] at this
  exact this
theorem Bh.len {p : Step} {l l1 : List Step} {p1 : Step} (h : Bh p l l1 p1) : l1.length = l.length := by
  induction h with
  | nil => rfl
  | cons _ _ ih => simp [ih]
theorem Bh.app {p : Step} {l l1 : List Step} {p1 : Step} (h : Bh p l l1 p1) : ∀ {m m1 : List Step} {p2 : Step}, Bh p1 m m1 p2 → Bh p (l ++ m) (l1 ++ m1) p2 := by
  induction h with
  | nil => intro m m1 p2 k; exact k
  | cons e _ ih => intro m m1 p2 k; exact .cons e (ih k)
theorem Bh.part {m : List Step} : ∀ {l : List Step} {p p2 : Step} {z : List Step}, Bh p (l ++ m) z p2 → ∃ l1 m1 p1, z = l1 ++ m1 ∧ Bh p l l1 p1 ∧ Bh p1 m m1 p2
  | [], p, p2, z, h => ⟨[], z, p, rfl, .nil, h⟩
  | q :: l, p, p2, z, h => by
    cases h with
    | cons e h =>
      obtain ⟨l1, m1, p1, rfl, k1, k2⟩ := Bh.part h
      exact ⟨_ :: l1, m1, p1, rfl, .cons e k1, k2⟩
theorem Bh.one {p q q1 p1 : Step} (h : commuted p q = some (q1, p1)) : Bh p [q] [q1] p1 := .cons h .nil
theorem Bh.of_one {p q p1 : Step} {l : List Step} (h : Bh p [q] l p1) : ∃ q1, l = [q1] ∧ commuted p q = some (q1, p1) := by
  cases h with
  | cons e h =>
    cases h
    exact ⟨_, rfl, e⟩

theorem bh_swap : ∀ {X : List Step} {p x x' p2 : Step} {X' X2 : List Step} {x2 : Step}, Bh p (x :: X) (x' :: X') p2 → Bh x X X2 x2 → ∃ X2' x2', Bh x' X' X2' x2' ∧ Bh p (X2 ++ [x2]) (X2' ++ [x2']) p2
  | [], p, x, x', p2, X', X2, x2, h, k => by
    cases k
    cases h with
    | cons e h =>
      cases h
      exact ⟨[], x', .nil, .one e⟩
  | y :: Y, p, x, x', p2, X', X2, x2, h, k => by
    cases h with
    | cons e1 h =>
      cases h with
      | cons e2 h =>
        cases k with
        | cons e3 k =>
          obtain ⟨y1', x1', p1', f1, f2, f3⟩ := cubeA e1 e2 e3
          obtain ⟨X2', x2', g1, g2⟩ := bh_swap (Bh.cons f3 h) k
          exact ⟨y1' :: X2', x2', .cons f1 g1, .cons f2 g2⟩
theorem bh_swapB : ∀ {X : List Step} {p x x' p2 : Step} {X' X2' : List Step} {x2' : Step}, Bh p (x :: X) (x' :: X') p2 → Bh x' X' X2' x2' → ∃ X2 x2, Bh x X X2 x2
  | [], p, x, x', p2, X', X2, x2, h, k => ⟨[], x, .nil⟩
  | y :: Y, p, x, x', p2, X', X2, x2, h, k => by
    cases h with
    | cons e1 h =>
      cases h with
      | cons e2 h =>
        cases k with
        | cons e3 k =>
          obtain ⟨y1', x1', p1', f1, f2, f3⟩ := cubeB e1 e2 e3
          obtain ⟨X2', x2', g1⟩ := bh_swapB (Bh.cons f3 h) k
          exact ⟨_, _, .cons f1 g1⟩
theorem bh_three : ∀ {X : List Step} {p x x' p1 : Step} {X2 X2' : List Step} {x2 p' : Step}, commuted p x = some (x', p1) → Bh x X X2 x2 → Bh p X2 X2' p' → ∃ X' p2, Bh p1 X X' p2
  | [], p, x, x', p1, X2, X2', x2, p', _, _, _ => ⟨[], p1, .nil⟩
  | y :: Y, p, x, x', p1, X2, X2', x2, p', h, k, l => by
    cases k with
    | cons e3 k =>
      cases l with
      | cons e4 l =>
        obtain ⟨y', p2, x1', f1, f2, f3⟩ := cube3 h e3 e4
        obtain ⟨X', p3, g⟩ := bh_three f2 k l
        exact ⟨_, _, .cons f1 g⟩
theorem bh_four : ∀ {D D1 D2 : List Step} {x y y1 x1 u v : Step}, commuted x y = some (y1, x1) → Bh (turned x) D D1 u → Bh (turned y1) D D2 v → ∃ D3 u' v', Bh (turned y) D1 D3 v' ∧ Bh (turned x1) D2 D3 u'
  | [], D1, D2, x, y, y1, x1, u, v, h, k, l => by
    cases k
    cases l
    exact ⟨[], _, _, .nil, .nil⟩
  | d :: D, D1, D2, x, y, y1, x1, u, v, h, k, l => by
    cases k with
    | cons e1 k =>
      cases l with
      | cons e2 l =>
        obtain ⟨d3, u', v', f1, f2, f3⟩ := cube4 h e1 e2
        obtain ⟨D3, u'', v'', g1, g2⟩ := bh_four f3 (by rw [tn_tn]; exact k) (by rw [tn_tn]; exact l)
        rw [tn_tn] at g1 g2
        exact ⟨d3 :: D3, u'', v'', .cons f1 g1, .cons f2 g2⟩
theorem bh_five : ∀ {D D1 D2 : List Step} {x y y1 x1 u v : Step}, commuted x y = some (y1, x1) → Bh (turned x) D D1 u → Bh (turned y) D1 D2 v → ∃ D' u' v', Bh (turned y1) D D' v' ∧ Bh (turned x1) D' D2 u'
  | [], D1, D2, x, y, y1, x1, u, v, h, k, l => by
    cases k
    cases l
    exact ⟨[], _, _, .nil, .nil⟩
  | d :: D, D1, D2, x, y, y1, x1, u, v, h, k, l => by
    cases k with
    | cons e1 k =>
      cases l with
      | cons e2 l =>
        obtain ⟨d', u', v', f1, f2, f3⟩ := cube5 h e1 e2
        obtain ⟨D', u'', v'', g1, g2⟩ := bh_five f3 (by rw [tn_tn]; exact k) (by rw [tn_tn]; exact l)
        rw [tn_tn] at g1 g2
        exact ⟨d' :: D', u'', v'', .cons f1 g1, .cons f2 g2⟩

/-! ### rows alike but for commuting -/
inductive Eqv : List Step → List Step → Prop where
  | refl {X : List Step} : Eqv X X
  | swap {x y y1 x1 : Step} {V : List Step} : commuted x y = some (y1, x1) → Eqv (x :: y :: V) (y1 :: x1 :: V)
  | cons {x : Step} {X Y : List Step} : Eqv X Y → Eqv (x :: X) (x :: Y)
  | trans {X Y Z : List Step} : Eqv X Y → Eqv Y Z → Eqv X Z
theorem Eqv.symm {X Y : List Step} (h : Eqv X Y) : Eqv Y X := by
  induction h with
  | refl => exact .refl
  | swap e => exact .swap (s_sym e)
  | cons _ ih => exact .cons ih
  | trans _ _ ih1 ih2 => exact .trans ih2 ih1
theorem Eqv.app {X Y : List Step} (h : Eqv X Y) (Z : List Step) : Eqv (X ++ Z) (Y ++ Z) := by
  induction h with
  | refl => exact .refl
  | swap e => exact .swap e
  | cons _ ih => exact .cons ih
  | trans _ _ ih1 ih2 => exact .trans ih1 ih2
theorem Eqv.pre {X Y : List Step} (h : Eqv X Y) : ∀ (U : List Step), Eqv (U ++ X) (U ++ Y)
  | [] => h
  | _ :: U => .cons (Eqv.pre h U)
theorem Bh.eqv {p : Step} {l l1 : List Step} {p1 : Step} (h : Bh p l l1 p1) : Eqv (p :: l) (l1 ++ [p1]) := by
  induction h with
  | nil => exact .refl
  | cons e _ ih => exact .trans (.swap e) (.cons ih)
theorem Eqv.bh {X Y : List Step} (h : Eqv X Y) : ∀ {p p' : Step} {X' : List Step}, Bh p X X' p' → ∃ Y', Bh p Y Y' p' ∧ Eqv X' Y' := by
  induction h with
  | refl => intro p p' X' k; exact ⟨_, k, .refl⟩
  | swap e =>
    intro p p' X' k
    cases k with
    | cons e1 k =>
      cases k with
      | cons e2 k =>
        obtain ⟨y1', x1', p1', f1, f2, f3⟩ := cubeA e1 e2 e
        exact ⟨_, .cons f2 (.cons f3 k), .swap f1⟩
  | cons _ ih =>
    intro p p' X' k
    cases k with
    | cons e1 k =>
      obtain ⟨Y', f1, f2⟩ := ih k
      exact ⟨_, .cons e1 f1, .cons f2⟩
  | trans _ _ ih1 ih2 =>
    intro p p' X' k
    obtain ⟨Y', f1, f2⟩ := ih1 k
    obtain ⟨Z', g1, g2⟩ := ih2 f1
    exact ⟨Z', g1, .trans f2 g2⟩

/-! ### a row as it is behind another one -/
inductive Mg : List Step → List Step → List Step → Prop where
  | nil {D : List Step} : Mg [] D D
  | cons {x u : Step} {X D D1 D2 : List Step} : Bh (turned x) D D1 u → Mg X D1 D2 → Mg (x :: X) D D2
theorem Mg.det {X D D1 : List Step} (h : Mg X D D1) : ∀ {D2 : List Step}, Mg X D D2 → D1 = D2 := by
  induction h with
  | nil => intro D2 k; cases k; rfl
  | cons e _ ih =>
    intro D2 k
    cases k with
    | cons e2 k =>
      obtain ⟨rfl, rfl⟩ := e.det e2
      exact ih k
theorem Mg.app {X D D1 : List Step} (h : Mg X D D1) : ∀ {Y D2 : List Step}, Mg Y D1 D2 → Mg (X ++ Y) D D2 := by
  induction h with
  | nil => intro Y D2 k; exact k
  | cons e _ ih => intro Y D2 k; exact .cons e (ih k)
theorem Mg.part {Y : List Step} : ∀ {X D D2 : List Step}, Mg (X ++ Y) D D2 → ∃ D1, Mg X D D1 ∧ Mg Y D1 D2
  | [], D, D2, h => ⟨D, .nil, h⟩
  | x :: X, D, D2, h => by
    cases h with
    | cons e h =>
      obtain ⟨D1, k1, k2⟩ := Mg.part h
      exact ⟨D1, .cons e k1, k2⟩
theorem Eqv.mg {X Y : List Step} (h : Eqv X Y) : ∀ {D D' : List Step}, Mg X D D' → Mg Y D D' := by
  induction h with
  | refl => intro D D' k; exact k
  | swap e =>
    intro D D' k
    cases k with
    | cons e1 k =>
      cases k with
      | cons e2 k =>
        obtain ⟨_, _, _, f1, f2⟩ := bh_five e e1 e2
        exact .cons f1 (.cons f2 k)
  | cons _ ih =>
    intro D D' k
    cases k with
    | cons e1 k => exact .cons e1 (ih k)
  | trans _ _ ih1 ih2 => intro D D' k; exact ih2 (ih1 k)
/-- what is brought behind a row, from the other side -/
theorem mg_flip : ∀ {D D1 X X' : List Step} {x u : Step}, Bh (turned x) D D1 u → Mg D1 X X' → Mg D (x :: X) (turned u :: X')
  | [], D1, X, X', x, u, h, k => by
    cases h
    cases k
    rw [tn_tn]
    exact .nil
  | d :: D, D1, X, X', x, u, h, k => by
    cases h with
    | cons e h =>
      cases k with
      | cons e2 k =>
        have f := c_flip e
        exact .cons (.cons f e2) (mg_flip (by rw [tn_tn]; exact h) k)
theorem Mg.symm : ∀ {X D D' : List Step}, Mg X D D' → ∃ X', Mg D X X'
  | [], D, D', h => by
    cases h
    induction D with
    | nil => exact ⟨[], .nil⟩
    | cons d D ih =>
      obtain ⟨X', k⟩ := ih
      exact ⟨X', .cons .nil k⟩
  | x :: X, D, D', h => by
    cases h with
    | cons e h =>
      obtain ⟨X', k⟩ := Mg.symm h
      exact ⟨_, mg_flip e k⟩
/-- three rows from one place, each two of which can be merged (one of them a step) -/
theorem mg_three : ∀ {X X2 D D1 D2 : List Step} {x x2 u : Step}, Bh x X X2 x2 → Bh (turned x) D D1 u → Mg X2 D D2 → ∃ D3, Mg X D1 D3
  | [], X2, D, D1, D2, x, x2, u, _, _, _ => ⟨D1, .nil⟩
  | y :: Y, X2, D, D1, D2, x, x2, u, h, k, l => by
    cases h with
    | cons e h =>
      cases l with
      | cons e2 l =>
        obtain ⟨D3, u', v', f1, f2⟩ := bh_four e k e2
        obtain ⟨D4, g⟩ := mg_three h f2 l
        exact ⟨D4, .cons f1 g⟩

/-! ### blocks -/
open Vapatd (blockFrom blockOf rowsMerged withoutAll)
theorem bf_ok {x : Step} {l X X2 : List Step} {x2 : Step} (h : Bh x X X2 x2) : blockFrom (x :: l) X = blockFrom l X2 := by
  simp only [blockFrom, (bh_iff _ _ _ _).mpr h]
theorem bf_no {x : Step} {l X : List Step} (h : ¬ ∃ X2 x2, Bh x X X2 x2) : blockFrom (x :: l) X = blockFrom l (x :: X) := by
  simp only [blockFrom]
  split
  · rename_i e
    exact (h ⟨_, _, (bh_iff _ _ _ _).mp e⟩).elim
  · rfl
theorem bf_app : ∀ (l m X : List Step), blockFrom (l ++ m) X = blockFrom m (blockFrom l X)
  | [], m, X => rfl
  | x :: l, m, X => by
    by_cases h : ∃ X2 x2, Bh x X X2 x2
    · obtain ⟨X2, x2, h⟩ := h
      rw [List.cons_append, bf_ok h, bf_ok h, bf_app l]
    · rw [List.cons_append, bf_no h, bf_no h, bf_app l]
/-- a row whose rest ahead and whose block can be merged -/
theorem mg_block : ∀ (l X D E F : List Step), Mg l.reverse D E → Mg (blockFrom l X) D F → ∃ G, Mg (l.reverse ++ X) D G
  | [], X, D, E, F, _, h => ⟨F, h⟩
  | x :: l, X, D, E, F, h, k => by
    rw [List.reverse_cons] at h
    obtain ⟨D0, h1, h2⟩ := Mg.part h
    rw [List.reverse_cons, List.append_assoc]
    by_cases c : ∃ X2 x2, Bh x X X2 x2
    · obtain ⟨X2, x2, c⟩ := c
      rw [bf_ok c] at k
      obtain ⟨G, g⟩ := mg_block l X2 D D0 F h1 k
      obtain ⟨D0', g1, g2⟩ := Mg.part g
      cases Mg.det h1 g1
      cases h2 with
      | cons e2 h2 =>
        obtain ⟨D3, f⟩ := mg_three c e2 g2
        exact ⟨D3, h1.app (.cons e2 f)⟩
    · rw [bf_no c] at k
      exact mg_block l (x :: X) D D0 F h1 k
theorem bo_at {row : List Step} {i : Nat} {q : Step} (h : row[i]? = some q) : blockOf row i = blockFrom (row.take i).reverse [q] := by
  simp only [blockOf, h]
theorem take_more {α : Type} : ∀ {l : List α} {i : Nat} {x : α}, l[i]? = some x → l.take (i + 1) = l.take i ++ [x]
  | [], i, x, h => by simp at h
  | a :: l, 0, x, h => by
    have e : a = x := Option.some.inj h
    subst e
    rfl
  | a :: l, i + 1, x, h => by
    have ih := take_more (l := l) (i := i) (x := x) h
    show a :: l.take (i + 1) = a :: l.take i ++ [x]
    rw [ih]
    rfl
theorem mg_blocks {a D : List Step} (h : ∀ i, i < a.length → ∃ F, Mg (blockOf a i) D F) : ∀ i, i ≤ a.length → ∃ E, Mg (a.take i) D E
  | 0, _ => ⟨D, by rw [List.take_zero]; exact .nil⟩
  | i + 1, hi => by
    obtain ⟨E, e⟩ := mg_blocks h i (by omega)
    obtain ⟨F, f⟩ := h i (by omega)
    have hx : a[i]? = some a[i] := List.getElem?_eq_getElem (by omega)
    rw [bo_at hx] at f
    obtain ⟨G, g⟩ := mg_block (a.take i).reverse [a[i]] D E F (by rw [List.reverse_reverse]; exact e) f
    rw [List.reverse_reverse, ← take_more hx] at g
    exact ⟨G, g⟩
/-- rows all of whose blocks can be merged can be merged -/
theorem mg_all {a b : List Step} (h : ∀ i j, i < a.length → j < b.length → ∃ F, Mg (blockOf a i) (blockOf b j) F) : ∃ b', Mg a b b' := by
  have h1 : ∀ i, i < a.length → ∃ F, Mg (blockOf a i) b F := by
    intro i hi
    have : ∃ E, Mg (b.take b.length) (blockOf a i) E := mg_blocks (fun j hj => by
      obtain ⟨F, f⟩ := h i j hi hj
      exact f.symm) _ (Nat.le_refl _)
    obtain ⟨E, e⟩ := this
    rw [List.take_length] at e
    exact e.symm
  obtain ⟨E, e⟩ := mg_blocks h1 _ (Nat.le_refl _)
  rw [List.take_length] at e
  exact ⟨E, e⟩
/-- a step that can't be brought behind what is brought ahead of it is needed -/
theorem bf_stuck : ∀ (l X : List Step) {p p1 : Step} {w : List Step}, Bh p l.reverse w p1 → (¬ ∃ X' p', Bh p1 X X' p') → ¬ ∃ X' p', Bh p (blockFrom l X) X' p'
  | [], X, p, p1, w, h, k => by
    cases h
    exact k
  | x :: l, X, p, p1, w, h, k => by
    rw [List.reverse_cons] at h
    obtain ⟨w0, m1, p0, rfl, h1, h2⟩ := Bh.part h
    obtain ⟨x', rfl, e⟩ := h2.of_one
    by_cases c : ∃ X2 x2, Bh x X X2 x2
    · obtain ⟨X2, x2, c⟩ := c
      rw [bf_ok c]
      refine bf_stuck l X2 h1 ?_
      rintro ⟨X', p', f⟩
      exact k (bh_three e c f)
    · rw [bf_no c]
      refine bf_stuck l (x :: X) h1 ?_
      rintro ⟨X', p', f⟩
      cases f with
      | cons e' f =>
        rw [e] at e'
        simp only [Option.some.injEq, Prod.mk.injEq] at e'
        obtain ⟨rfl, rfl⟩ := e'
        exact k ⟨_, _, f⟩
/-- a block within a block -/
theorem bf_within : ∀ (l X Y Z : List Step), Eqv X (Y ++ Z) → ∃ Z', Eqv (blockFrom l X) (blockFrom l Y ++ Z')
  | [], X, Y, Z, h => ⟨Z, h⟩
  | x :: l, X, Y, Z, h => by
    by_cases c : ∃ Y2 x2, Bh x Y Y2 x2
    · obtain ⟨Y2, x2, c⟩ := c
      rw [bf_ok c]
      by_cases d : ∃ Z2 x3, Bh x2 Z Z2 x3
      · obtain ⟨Z2, x3, d⟩ := d
        obtain ⟨X2, f1, f2⟩ := h.symm.bh (c.app d)
        rw [bf_ok f1]
        exact bf_within l X2 Y2 Z2 f2.symm
      · have nX : ¬ ∃ X2 x3, Bh x X X2 x3 := by
          rintro ⟨X2, x3, f⟩
          obtain ⟨W, f1, _⟩ := h.bh f
          obtain ⟨l1, m1, p1, rfl, g1, g2⟩ := Bh.part f1
          obtain ⟨rfl, rfl⟩ := c.det g1
          exact d ⟨_, _, g2⟩
        rw [bf_no nX]
        refine bf_within l (x :: X) Y2 (x2 :: Z) (.trans (.cons h) ?_)
        have := c.eqv.app Z
        rw [List.append_assoc] at this
        exact this
    · rw [bf_no c]
      have nX : ¬ ∃ X2 x3, Bh x X X2 x3 := by
        rintro ⟨X2, x3, f⟩
        obtain ⟨W, f1, _⟩ := h.bh f
        obtain ⟨l1, m1, p1, rfl, g1, g2⟩ := Bh.part f1
        exact c ⟨_, _, g1⟩
      rw [bf_no nX]
      exact bf_within l (x :: X) (x :: Y) Z (.cons h)
/-- a block as it is without a step ahead that is brought behind all -/
theorem bf_past : ∀ (l X : List Step) {p p1 p2 : Step} {w X' : List Step}, Bh p l.reverse w p1 → Bh p1 X X' p2 → ∃ p3, Bh p (blockFrom l X) (blockFrom w.reverse X') p3
  | [], X, p, p1, p2, w, X', h, k => by
    cases h
    exact ⟨_, k⟩
  | x :: l, X, p, p1, p2, w, X', h, k => by
    rw [List.reverse_cons] at h
    obtain ⟨w0, m1, p0, rfl, h1, h2⟩ := Bh.part h
    obtain ⟨x', rfl, e⟩ := h2.of_one
    rw [List.reverse_append, List.reverse_singleton, List.singleton_append]
    by_cases c : ∃ X2 x2, Bh x X X2 x2
    · obtain ⟨X2, x2, c⟩ := c
      obtain ⟨X2', x2', f1, f2⟩ := bh_swap (Bh.cons e k) c
      rw [bf_ok c, bf_ok f1]
      obtain ⟨l1, m1, q1, e1, g1, g2⟩ := Bh.part f2
      obtain ⟨z, rfl, _⟩ := g2.of_one
      obtain ⟨rfl, _⟩ := List.append_inj' e1 rfl
      exact bf_past l X2 h1 g1
    · have n' : ¬ ∃ X2 x2, Bh x' X' X2 x2 := by
        rintro ⟨X2', x2', f⟩
        exact c (bh_swapB (Bh.cons e k) f)
      rw [bf_no c, bf_no n']
      exact bf_past l (x :: X) h1 (.cons e k)
end RM

/-! part RmTree -/
set_option linter.all false
namespace RM
open VapatBase

/-! ### trees as sorted lists -/
def Srt (t : Tree) : Prop := t.Pairwise fun x y => x.1 < y.1
theorem fi_nil (f : Nat) : fileIn [] f = none := rfl
theorem fi_cons (x : Nat × Tokens) (t : Tree) (f : Nat) : fileIn (x :: t) f = if x.1 = f then some x.2 else fileIn t f := by
  unfold fileIn
  rw [List.find?_cons]
  by_cases e : x.1 = f
  · simp [e]
  · have : (x.1 == f) = false := by simp [e]
    simp [e, this]
theorem fi_put (f : Nat) (c : Tokens) (g : Nat) : ∀ (t : Tree), fileIn (putFile f c t) g = if g = f then some c else fileIn t g
  | [] => by
    simp only [putFile, fi_cons, fi_nil]
    grind
  | x :: t => by
    have ih := fi_put f c g t
    simp only [putFile]
    split
    · simp only [fi_cons]
      grind
    · split
      · simp only [fi_cons]
        grind
      · simp only [fi_cons, ih]
        grind
theorem fi_drop (f g : Nat) : ∀ (t : Tree), fileIn (dropFile f t) g = if g = f then none else fileIn t g
  | [] => by simp [dropFile, fi_nil]
  | x :: t => by
    have ih := fi_drop f g t
    unfold dropFile at ih ⊢
    rw [List.filter_cons]
    split
    · simp only [fi_cons, ih]
      grind
    · rw [ih, fi_cons]
      grind
theorem fi_mem {f : Nat} {c : Tokens} : ∀ {t : Tree}, fileIn t f = some c → (f, c) ∈ t
  | [], h => by simp [fi_nil] at h
  | x :: t, h => by
    rw [fi_cons] at h
    split at h
    · rename_i e
      cases h
      subst e
      exact List.mem_cons_self
    · exact List.mem_cons_of_mem _ (fi_mem h)
theorem fi_none_lt {f : Nat} : ∀ {t : Tree}, (∀ x ∈ t, f < x.1) → fileIn t f = none
  | [], _ => rfl
  | x :: t, h => by
    rw [fi_cons, if_neg]
    · exact fi_none_lt fun y hy => h y (List.mem_cons_of_mem _ hy)
    · have := h x List.mem_cons_self
      omega
theorem srt_ext : ∀ {t u : Tree}, Srt t → Srt u → (∀ f, fileIn t f = fileIn u f) → t = u
  | [], [], _, _, _ => rfl
  | [], y :: u, _, _, h => by
    have := h y.1
    rw [fi_cons, if_pos rfl, fi_nil] at this
    cases this
  | x :: t, [], _, _, h => by
    have := h x.1
    rw [fi_cons, if_pos rfl, fi_nil] at this
    cases this
  | x :: t, y :: u, ht, hu, h => by
    unfold Srt at ht hu
    rw [List.pairwise_cons] at ht hu
    have h1 := h x.1
    have h2 := h y.1
    rw [fi_cons, if_pos rfl, fi_cons] at h1
    rw [fi_cons, fi_cons, if_pos rfl] at h2
    have exy : x.1 = y.1 := by
      rcases Nat.lt_trichotomy x.1 y.1 with l | l | l
      · rw [if_neg (by omega), fi_none_lt (t := u) (fun z hz => by have := hu.1 z hz; omega)] at h1
        cases h1
      · exact l
      · rw [if_neg (by omega), fi_none_lt (t := t) (fun z hz => by have := ht.1 z hz; omega)] at h2
        cases h2
    rw [if_pos exy.symm] at h1
    have e2 : x.2 = y.2 := by injection h1
    have exy' : x = y := Prod.ext exy e2
    subst exy'
    have : t = u := srt_ext ht.2 hu.2 fun f => by
      have := h f
      rw [fi_cons, fi_cons] at this
      by_cases e : x.1 = f
      · subst e
        rw [fi_none_lt ht.1, fi_none_lt hu.1]
      · rw [if_neg e, if_neg e] at this
        exact this
    rw [this]
theorem put_key {f : Nat} {c : Tokens} : ∀ {t : Tree} {y : Nat × Tokens}, y ∈ putFile f c t → y.1 = f ∨ y ∈ t
  | [], y, h => by
    simp only [putFile, List.mem_singleton] at h
    exact .inl (by rw [h])
  | x :: t, y, h => by
    simp only [putFile] at h
    split at h
    · rcases List.mem_cons.mp h with rfl | h
      · exact .inl rfl
      · exact .inr h
    · split at h
      · rcases List.mem_cons.mp h with rfl | h
        · exact .inl rfl
        · exact .inr (List.mem_cons_of_mem _ h)
      · rcases List.mem_cons.mp h with rfl | h
        · exact .inr List.mem_cons_self
        · rcases put_key h with e | e
          · exact .inl e
          · exact .inr (List.mem_cons_of_mem _ e)
theorem srt_put (f : Nat) (c : Tokens) : ∀ {t : Tree}, Srt t → Srt (putFile f c t)
  | [], _ => List.pairwise_singleton _ _
  | x :: t, h => by
    unfold Srt at h ⊢
    have h' := h
    rw [List.pairwise_cons] at h
    simp only [putFile]
    split
    · rename_i l
      refine List.pairwise_cons.mpr ⟨fun y hy => ?_, h'⟩
      rcases List.mem_cons.mp hy with rfl | hy
      · exact l
      · have := h.1 y hy
        show f < y.1
        omega
    · split
      · rename_i l e
        refine List.pairwise_cons.mpr ⟨fun y hy => ?_, h.2⟩
        have := h.1 y hy
        show f < y.1
        omega
      · rename_i l e
        refine List.pairwise_cons.mpr ⟨fun y hy => ?_, srt_put f c h.2⟩
        rcases put_key hy with e | e
        · omega
        · exact h.1 y e
theorem srt_drop (f : Nat) {t : Tree} (h : Srt t) : Srt (dropFile f t) := List.Pairwise.filter _ h

/-! ### steps over trees -/
def bapply : Body → Tokens → Option Tokens
  | .h a o n, c => spliced c a o n
  | .s x y, c => some (swapAll x y c)
theorem ap_i (t : Tree) (f : Nat) (b : Body) : applied t (ins f b) = (fileIn t f).bind fun c => (bapply b c).map fun d => putFile f d t := by
  cases b with
  | h a o n => rfl
  | s x y =>
    simp only [ins, applied, bapply, Option.map_some]
    cases fileIn t f <;> rfl
theorem ap_i_some {t u : Tree} {f : Nat} {b : Body} (h : applied t (ins f b) = some u) : ∃ c d, fileIn t f = some c ∧ bapply b c = some d ∧ u = putFile f d t := by
  rw [ap_i] at h
  cases e : fileIn t f with
  | none => rw [e] at h; cases h
  | some c =>
    rw [e] at h
    simp only [Option.bind_some] at h
    cases e2 : bapply b c with
    | none => rw [e2] at h; cases h
    | some d =>
      rw [e2] at h
      simp only [Option.map_some, Option.some.injEq] at h
      exact ⟨c, d, rfl, e2, h.symm⟩
theorem ap_i_mk {t : Tree} {f : Nat} {b : Body} {c d : Tokens} (h : fileIn t f = some c) (k : bapply b c = some d) : applied t (ins f b) = some (putFile f d t) := by
  rw [ap_i, h, Option.bind_some, k]
  rfl
theorem spl_iff {c d : Tokens} {a : Nat} {o n : Tokens} : spliced c a o n = some d ↔ ∃ l r, c = l ++ (o ++ r) ∧ l.length = a ∧ d = l ++ (n ++ r) := by
  unfold spliced
  constructor
  · intro h
    split at h
    · rename_i e
      refine ⟨c.take a, c.drop (a + o.length), ?_, ?_, (Option.some.inj h).symm⟩
      · conv => lhs; rw [← List.take_append_drop a c, ← List.take_append_drop o.length (c.drop a), e.2, List.drop_drop]
      · rw [List.length_take]
        omega
    · cases h
  · rintro ⟨l, r, rfl, rfl, rfl⟩
    rw [if_pos]
    · congr 1
      simp [List.drop_append]
    · refine ⟨by simp, ?_⟩
      simp
theorem two_cuts {l1 r1 l2 r2 : Tokens} {o : Tokens} (h : l1 ++ (o ++ r1) = l2 ++ r2) (k : l1.length + o.length ≤ l2.length) : ∃ m, l2 = l1 ++ (o ++ m) ∧ r1 = m ++ r2 := by
  rw [← List.append_assoc] at h
  rcases List.append_eq_append_iff.mp h with ⟨m, e1, e2⟩ | ⟨m, e1, e2⟩
  · exact ⟨m, by rw [e1, List.append_assoc], e2⟩
  · have : m = [] := by
      have := congrArg List.length e1
      simp at this
      exact List.length_eq_zero_iff.mp (by omega)
    subst this
    refine ⟨[], ?_, ?_⟩
    · rw [List.append_nil] at e1
      simp [← e1]
    · simpa using e2.symm
theorem b_sem {b c c' b' : Body} (h : bcomm b c = some (c', b')) {x y z : Tokens} (hb : bapply b x = some y) (hc : bapply c y = some z) : ∃ y', bapply c' x = some y' ∧ bapply b' y' = some z := by
  cases b with
  | h a o n =>
    cases c with
    | h e u v =>
      obtain ⟨l, r, rfl, rfl, rfl⟩ := spl_iff.mp hb
      obtain ⟨l2, r2, e1, rfl, rfl⟩ := spl_iff.mp hc
      rcases hh_ways h with ⟨k, rfl, rfl⟩ | ⟨k, rfl, rfl⟩
      · obtain ⟨m, rfl, rfl⟩ := two_cuts e1 (by omega)
        refine ⟨(l ++ (o ++ m)) ++ (v ++ r2), spl_iff.mpr ⟨l ++ (o ++ m), r2, by simp, ?_, rfl⟩, spl_iff.mpr ⟨l, m ++ (v ++ r2), by simp, rfl, by simp⟩⟩
        simp only [List.length_append]
        omega
      · obtain ⟨m, rfl, rfl⟩ := two_cuts e1.symm (by omega)
        refine ⟨l2 ++ (v ++ (m ++ (o ++ r))), spl_iff.mpr ⟨l2, m ++ (o ++ r), by simp, rfl, rfl⟩, spl_iff.mpr ⟨l2 ++ (v ++ m), r, by simp, ?_, by simp⟩⟩
        simp only [List.length_append]
        omega
    | s e e' =>
      obtain ⟨l, r, rfl, rfl, rfl⟩ := spl_iff.mp hb
      simp only [bcomm, Option.some.injEq, Prod.mk.injEq] at h
      obtain ⟨rfl, rfl⟩ := h
      simp only [bapply, Option.some.injEq] at hc
      subst hc
      refine ⟨_, rfl, spl_iff.mpr ⟨swapAll e e' l, swapAll e e' r, by simp [swapAll], sw_len _ _ _, by simp [swapAll]⟩⟩
  | s x y =>
    cases c with
    | h e u v =>
      simp only [bcomm, Option.some.injEq, Prod.mk.injEq] at h
      obtain ⟨rfl, rfl⟩ := h
      simp only [bapply, Option.some.injEq] at hb
      subst hb
      obtain ⟨l, r, e1, rfl, rfl⟩ := spl_iff.mp hc
      have e2 := congrArg (swapAll x y) e1
      rw [sw_sw] at e2
      subst e2
      refine ⟨swapAll x y l ++ (swapAll x y v ++ swapAll x y r), spl_iff.mpr ⟨swapAll x y l, swapAll x y r, by simp [swapAll], sw_len _ _ _, rfl⟩, ?_⟩
      simp only [bapply, Option.some.injEq]
      have : ∀ a b : Tokens, swapAll x y (a ++ b) = swapAll x y a ++ swapAll x y b := by simp [swapAll]
      rw [this, this, sw_sw, sw_sw, sw_sw]
    | s u v =>
      simp only [bcomm] at h
      split at h
      · cases h
      · rename_i k
        simp only [Option.some.injEq, Prod.mk.injEq] at h
        obtain ⟨rfl, rfl⟩ := h
        simp only [bapply, Option.some.injEq] at hb hc
        subst hb hc
        exact ⟨_, rfl, by simp only [bapply]; rw [sw_comm x y u v _ k]⟩
theorem b_back {b : Body} {x y : Tokens} (h : bapply b x = some y) : bapply (bturn b) y = some x := by
  cases b with
  | h a o n =>
    obtain ⟨l, r, rfl, rfl, rfl⟩ := spl_iff.mp h
    exact spl_iff.mpr ⟨l, r, rfl, rfl, rfl⟩
  | s u v =>
    simp only [bapply, Option.some.injEq] at h
    subst h
    simp only [bapply, bturn, sw_sw]
theorem ap_r {t : Tree} {k : Bool} {f : Nat} : applied t (rig k f) = if k then (if fileIn t f = none then some (putFile f [] t) else none) else (if fileIn t f = some [] then some (dropFile f t) else none) := by
  cases k with
  | true =>
    simp only [rig, applied, if_true]
    cases e : fileIn t f <;> simp
  | false => rfl
theorem ap_m {t : Tree} {f g : Nat} : applied t (.move f g) = if fileIn t g = none then (fileIn t f).map fun c => putFile g c (dropFile f t) else none := by
  simp only [applied]
  cases e : fileIn t f <;> cases e2 : fileIn t g <;> simp
theorem srt_ap {t u : Tree} {p : Step} (s : Srt t) (h : applied t p = some u) : Srt u := by
  rcases view p with ⟨f, b, rfl⟩ | ⟨k, f, rfl⟩ | ⟨f, g, rfl⟩
  · obtain ⟨c, d, _, _, rfl⟩ := ap_i_some h
    exact srt_put _ _ s
  · rw [ap_r] at h
    split at h <;> split at h <;> first | cases h | skip
    · exact srt_put _ _ s
    · exact srt_drop _ s
  · rw [ap_m] at h
    split at h
    · cases e : fileIn t f with
      | none => rw [e] at h; cases h
      | some c =>
        rw [e] at h
        cases h
        exact srt_put _ _ (srt_drop _ s)
    · cases h
theorem ap_back {t u : Tree} {p : Step} (s : Srt t) (h : applied t p = some u) : applied u (turned p) = some t := by
  have su := srt_ap s h
  rcases view p with ⟨f, b, rfl⟩ | ⟨k, f, rfl⟩ | ⟨f, g, rfl⟩
  · obtain ⟨c, d, e1, e2, rfl⟩ := ap_i_some h
    rw [tn_i, ap_i_mk (by rw [fi_put, if_pos rfl]) (b_back e2)]
    congr 1
    refine srt_ext (srt_put _ _ su) s fun g => ?_
    rw [fi_put, fi_put]
    grind
  · rw [tn_r, ap_r]
    rw [ap_r] at h
    cases k with
    | true =>
      simp only [if_true] at h
      split at h
      · cases h
        rename_i e
        simp only [Bool.not_true, Bool.false_eq_true, if_false, fi_put, if_true, Option.some.injEq]
        refine srt_ext (srt_drop _ su) s fun g => ?_
        rw [fi_drop, fi_put]
        grind
      · cases h
    | false =>
      simp only [Bool.false_eq_true, if_false] at h
      split at h
      · cases h
        rename_i e
        simp only [Bool.not_false, if_true, fi_drop, if_true, Option.some.injEq]
        refine srt_ext (srt_put _ _ su) s fun g => ?_
        rw [fi_put, fi_drop]
        grind
      · cases h
  · rw [tn_m, ap_m]
    rw [ap_m] at h
    split at h
    · rename_i e
      cases e2 : fileIn t f with
      | none => rw [e2] at h; cases h
      | some c =>
        rw [e2] at h
        cases h
        have nfg : f ≠ g := fun q => by subst q; rw [e] at e2; cases e2
        rw [if_pos (by rw [fi_put, if_neg nfg, fi_drop, if_pos rfl]), fi_put, if_pos rfl]
        simp only [Option.map_some, Option.some.injEq]
        refine srt_ext (srt_put _ _ (srt_drop _ su)) s fun x => ?_
        rw [fi_put, fi_drop, fi_put, fi_drop]
        grind
    · cases h
/-- what a step does, by what files hold -/
def Does (p : Step) (m m' : Nat → Option Tokens) : Prop := match p with
  | .hunk f a o n => ∃ c d, m f = some c ∧ bapply (.h a o n) c = some d ∧ ∀ g, m' g = if g = f then some d else m g
  | .swap f x y => ∃ c d, m f = some c ∧ bapply (.s x y) c = some d ∧ ∀ g, m' g = if g = f then some d else m g
  | .add f => m f = none ∧ ∀ g, m' g = if g = f then some [] else m g
  | .remove f => m f = some [] ∧ ∀ g, m' g = if g = f then none else m g
  | .move f g => m g = none ∧ ∃ c, m f = some c ∧ ∀ h, m' h = if h = g then some c else if h = f then none else m h
theorem does_i {f : Nat} {b : Body} {m m' : Nat → Option Tokens} : Does (ins f b) m m' ↔ ∃ c d, m f = some c ∧ bapply b c = some d ∧ ∀ g, m' g = if g = f then some d else m g := by
  cases b <;> exact Iff.rfl
theorem does_r {f : Nat} {k : Bool} {m m' : Nat → Option Tokens} : Does (rig k f) m m' ↔ m f = (if k then none else some []) ∧ ∀ g, m' g = if g = f then (if k then some [] else none) else m g := by
  cases k <;> exact Iff.rfl
theorem does_m {f g : Nat} {m m' : Nat → Option Tokens} : Does (.move f g) m m' ↔ m g = none ∧ ∃ c, m f = some c ∧ ∀ h, m' h = if h = g then some c else if h = f then none else m h := Iff.rfl
theorem does_of {t u : Tree} {p : Step} (h : applied t p = some u) : Does p (fileIn t) (fileIn u) := by
  rcases view p with ⟨f, b, rfl⟩ | ⟨k, f, rfl⟩ | ⟨f, g, rfl⟩
  · obtain ⟨c, d, e1, e2, rfl⟩ := ap_i_some h
    exact does_i.mpr ⟨c, d, e1, e2, fun g => fi_put _ _ _ _⟩
  · rw [ap_r] at h
    rw [does_r]
    cases k with
    | true =>
      simp only [if_true] at h ⊢
      split at h
      · cases h
        exact ⟨by assumption, fun g => fi_put _ _ _ _⟩
      · cases h
    | false =>
      simp only [Bool.false_eq_true, if_false] at h ⊢
      split at h
      · cases h
        exact ⟨by assumption, fun g => fi_drop _ _ _⟩
      · cases h
  · rw [ap_m] at h
    split at h
    · cases e : fileIn t f with
      | none => rw [e] at h; cases h
      | some c =>
        rw [e] at h
        cases h
        exact ⟨by assumption, c, e, fun x => by rw [fi_put, fi_drop]⟩
    · cases h
theorem does_mk {t : Tree} {p : Step} {m' : Nat → Option Tokens} (h : Does p (fileIn t) m') : ∃ u, applied t p = some u ∧ ∀ f, fileIn u f = m' f := by
  rcases view p with ⟨f, b, rfl⟩ | ⟨k, f, rfl⟩ | ⟨f, g, rfl⟩
  · obtain ⟨c, d, e1, e2, e3⟩ := does_i.mp h
    exact ⟨_, ap_i_mk e1 e2, fun g => by rw [fi_put, e3]⟩
  · obtain ⟨e1, e2⟩ := does_r.mp h
    rw [ap_r]
    cases k with
    | true => exact ⟨_, if_pos e1, fun g => by rw [fi_put, e2]; rfl⟩
    | false => exact ⟨_, if_pos e1, fun g => by rw [fi_drop, e2]; rfl⟩
  · obtain ⟨e1, c, e2, e3⟩ := does_m.mp h
    rw [ap_m, if_pos e1, e2]
    exact ⟨_, rfl, fun x => by rw [fi_put, fi_drop, e3]⟩
def mup (m : Nat → Option Tokens) (f : Nat) (v : Option Tokens) : Nat → Option Tokens := fun g => if g = f then v else m g
theorem does_comm {p q q1 p1 : Step} (h : commuted p q = some (q1, p1)) {m m1 m2 : Nat → Option Tokens} (h1 : Does p m m1) (h2 : Does q m1 m2) : ∃ m1', Does q1 m m1' ∧ Does p1 m1' m2 := by
  rcases view p with ⟨f, b, rfl⟩ | ⟨k, f, rfl⟩ | ⟨f, f', rfl⟩ <;> rcases view q with ⟨g, c, rfl⟩ | ⟨l, g, rfl⟩ | ⟨g, g', rfl⟩
  · obtain ⟨x, y, a1, a2, a3⟩ := does_i.mp h1
    obtain ⟨x', y', b1, b2, b3⟩ := does_i.mp h2
    obtain ⟨b', c', rfl, rfl, w⟩ := ii_some h
    rcases w with ⟨rfl, w⟩ | ⟨n, rfl, rfl⟩
    · rw [a3, if_pos rfl] at b1
      cases b1
      obtain ⟨z, f1, f2⟩ := b_sem w a2 b2
      exact ⟨mup m f (some z), does_i.mpr ⟨x, z, a1, f1, fun _ => rfl⟩, does_i.mpr ⟨z, y', by simp [mup], f2, fun g => by rw [b3, a3]; simp only [mup]; grind⟩⟩
    · rw [a3, if_neg (fun e => n e.symm)] at b1
      exact ⟨mup m g (some y'), does_i.mpr ⟨x', y', b1, b2, fun _ => rfl⟩, does_i.mpr ⟨x, y, by simp only [mup]; rw [if_neg n]; exact a1, a2, fun e => by rw [b3, a3]; simp only [mup]; grind⟩⟩
  · rw [cm_ir] at h
    split at h
    · cases h
    simp only [Option.some.injEq, Prod.mk.injEq] at h
    obtain ⟨rfl, rfl⟩ := h
    obtain ⟨x, y, a1, a2, a3⟩ := does_i.mp h1
    obtain ⟨b1, b2⟩ := does_r.mp h2
    refine ⟨mup m g (if l then some [] else none), does_r.mpr ⟨by grind, fun _ => rfl⟩, does_i.mpr ⟨x, y, by simp only [mup]; grind, a2, fun e => by simp only [mup]; grind⟩⟩
  · rw [cm_im] at h
    obtain ⟨x, y, a1, a2, a3⟩ := does_i.mp h1
    obtain ⟨b1, x', b2, b3⟩ := does_m.mp h2
    split at h
    · rename_i e
      subst e
      simp only [Option.some.injEq, Prod.mk.injEq] at h
      obtain ⟨rfl, rfl⟩ := h
      have n : f ≠ g' := by grind
      refine ⟨mup (mup m f none) g' (some x), does_m.mpr ⟨by grind, x, a1, fun e => by simp only [mup]⟩, does_i.mpr ⟨x, y, by simp [mup], a2, fun e => by simp only [mup]; grind⟩⟩
    · split at h
      · cases h
      simp only [Option.some.injEq, Prod.mk.injEq] at h
      obtain ⟨rfl, rfl⟩ := h
      refine ⟨mup (mup m g none) g' (some x'), does_m.mpr ⟨by grind, x', by grind, fun e => by simp only [mup]⟩, does_i.mpr ⟨x, y, by simp only [mup]; grind, a2, fun e => by simp only [mup]; grind⟩⟩
  · rw [cm_ri] at h
    split at h
    · cases h
    simp only [Option.some.injEq, Prod.mk.injEq] at h
    obtain ⟨rfl, rfl⟩ := h
    obtain ⟨x, y, a1, a2, a3⟩ := does_i.mp h2
    obtain ⟨b1, b2⟩ := does_r.mp h1
    refine ⟨mup m g (some y), does_i.mpr ⟨x, y, by grind, a2, fun _ => rfl⟩, does_r.mpr ⟨by simp only [mup]; grind, fun e => by simp only [mup]; grind⟩⟩
  · rw [cm_rr] at h
    split at h
    · cases h
    simp only [Option.some.injEq, Prod.mk.injEq] at h
    obtain ⟨rfl, rfl⟩ := h
    obtain ⟨a1, a2⟩ := does_r.mp h2
    obtain ⟨b1, b2⟩ := does_r.mp h1
    refine ⟨mup m g (if l then some [] else none), does_r.mpr ⟨by grind, fun _ => rfl⟩, does_r.mpr ⟨by simp only [mup]; grind, fun e => by simp only [mup]; grind⟩⟩
  · rw [cm_rm] at h
    split at h
    · cases h
    simp only [Option.some.injEq, Prod.mk.injEq] at h
    obtain ⟨rfl, rfl⟩ := h
    obtain ⟨a1, x, a2, a3⟩ := does_m.mp h2
    obtain ⟨b1, b2⟩ := does_r.mp h1
    refine ⟨mup (mup m g none) g' (some x), does_m.mpr ⟨by grind, x, by grind, fun e => by simp only [mup]⟩, does_r.mpr ⟨by simp only [mup]; grind, fun e => by simp only [mup]; grind⟩⟩
  · rw [cm_mi] at h
    obtain ⟨a1, x, a2, a3⟩ := does_m.mp h1
    obtain ⟨y, z, b1, b2, b3⟩ := does_i.mp h2
    split at h
    · rename_i e
      subst e
      simp only [Option.some.injEq, Prod.mk.injEq] at h
      obtain ⟨rfl, rfl⟩ := h
      have : x = y := by grind
      subst this
      refine ⟨mup m f (some z), does_i.mpr ⟨x, z, a2, b2, fun _ => rfl⟩, does_m.mpr ⟨by simp only [mup]; grind, z, by simp [mup], fun e => by simp only [mup]; grind⟩⟩
    · split at h
      · cases h
      simp only [Option.some.injEq, Prod.mk.injEq] at h
      obtain ⟨rfl, rfl⟩ := h
      refine ⟨mup m g (some z), does_i.mpr ⟨y, z, by grind, b2, fun _ => rfl⟩, does_m.mpr ⟨by simp only [mup]; grind, x, by simp only [mup]; grind, fun e => by simp only [mup]; grind⟩⟩
  · rw [cm_mr] at h
    split at h
    · cases h
    simp only [Option.some.injEq, Prod.mk.injEq] at h
    obtain ⟨rfl, rfl⟩ := h
    obtain ⟨a1, x, a2, a3⟩ := does_m.mp h1
    obtain ⟨b1, b2⟩ := does_r.mp h2
    refine ⟨mup m g (if l then some [] else none), does_r.mpr ⟨by grind, fun _ => rfl⟩, does_m.mpr ⟨by simp only [mup]; grind, x, by simp only [mup]; grind, fun e => by simp only [mup]; grind⟩⟩
  · rw [cm_mm] at h
    split at h
    · cases h
    simp only [Option.some.injEq, Prod.mk.injEq] at h
    obtain ⟨rfl, rfl⟩ := h
    obtain ⟨a1, x, a2, a3⟩ := does_m.mp h1
    obtain ⟨b1, y, b2, b3⟩ := does_m.mp h2
    refine ⟨mup (mup m g none) g' (some y), does_m.mpr ⟨by grind, y, by grind, fun e => by simp only [mup]⟩, does_m.mpr ⟨by simp only [mup]; grind, x, by simp only [mup]; grind, fun e => by simp only [mup]; grind⟩⟩
theorem does_cong {p : Step} {m m1 n n1 : Nat → Option Tokens} (h : Does p m m1) (e : ∀ f, m f = n f) (e1 : ∀ f, m1 f = n1 f) : Does p n n1 := by
  have a : m = n := funext e
  have b : m1 = n1 := funext e1
  subst a b
  exact h
theorem ap_comm {p q q1 p1 : Step} (h : commuted p q = some (q1, p1)) {t u v : Tree} (s : Srt t) (h1 : applied t p = some u) (h2 : applied u q = some v) : ∃ u', applied t q1 = some u' ∧ applied u' p1 = some v := by
  obtain ⟨m1, k1, k2⟩ := does_comm h (does_of h1) (does_of h2)
  obtain ⟨u', f1, f2⟩ := does_mk k1
  obtain ⟨v', g1, g2⟩ := does_mk (t := u') (does_cong k2 (fun f => (f2 f).symm) fun _ => rfl)
  have : v' = v := srt_ext (srt_ap (srt_ap s f1) g1) (srt_ap (srt_ap s h1) h2) g2
  subst this
  exact ⟨u', f1, g1⟩
/-! ### rows over trees -/
theorem apa_cons {t u : Tree} {p : Step} {l : List Step} : appliedAll t (p :: l) = some u ↔ ∃ v, applied t p = some v ∧ appliedAll v l = some u := by
  simp only [appliedAll]
  cases applied t p <;> simp
theorem apa_app {l m : List Step} : ∀ {t : Tree}, appliedAll t (l ++ m) = (appliedAll t l).bind fun u => appliedAll u m := by
  induction l with
  | nil => intro t; rfl
  | cons p l ih =>
    intro t
    simp only [List.cons_append, appliedAll]
    cases applied t p with
    | none => rfl
    | some u => simp only [Option.bind_some]; exact ih
theorem apa_app_iff {l m : List Step} {t v : Tree} : appliedAll t (l ++ m) = some v ↔ ∃ u, appliedAll t l = some u ∧ appliedAll u m = some v := by
  rw [apa_app]
  cases appliedAll t l <;> simp
theorem srt_apa : ∀ {l : List Step} {t u : Tree}, Srt t → appliedAll t l = some u → Srt u
  | [], t, u, s, h => by cases h; exact s
  | p :: l, t, u, s, h => by
    obtain ⟨v, h1, h2⟩ := apa_cons.mp h
    exact srt_apa (srt_ap s h1) h2
theorem Eqv.apa {X Y : List Step} (h : Eqv X Y) : ∀ {t u : Tree}, Srt t → appliedAll t X = some u → appliedAll t Y = some u := by
  induction h with
  | refl => intro t u _ k; exact k
  | swap e =>
    intro t u s k
    obtain ⟨v, k1, k2⟩ := apa_cons.mp k
    obtain ⟨w, k2, k3⟩ := apa_cons.mp k2
    obtain ⟨u', f1, f2⟩ := ap_comm e s k1 k2
    exact apa_cons.mpr ⟨u', f1, apa_cons.mpr ⟨w, f2, k3⟩⟩
  | cons _ ih =>
    intro t u s k
    obtain ⟨v, k1, k2⟩ := apa_cons.mp k
    exact apa_cons.mpr ⟨v, k1, ih (srt_ap s k1) k2⟩
  | trans _ _ ih1 ih2 => intro t u s k; exact ih2 s (ih1 s k)
/-- merged rows can be applied -/
theorem mg_apa {a : List Step} : ∀ {b b' : List Step} {t ta tb : Tree}, Mg a b b' → Srt t → appliedAll t a = some ta → appliedAll t b = some tb → ∃ u, appliedAll ta b' = some u := by
  induction a with
  | nil =>
    intro b b' t ta tb h s ha hb
    cases h
    cases ha
    exact ⟨tb, hb⟩
  | cons x a ih =>
    intro b b' t ta tb h s ha hb
    cases h with
    | cons e h =>
      obtain ⟨v, h1, h2⟩ := apa_cons.mp ha
      have back := ap_back s h1
      have k : appliedAll v (turned x :: b) = some tb := apa_cons.mpr ⟨t, back, hb⟩
      obtain ⟨w, k1, _⟩ := apa_app_iff.mp (e.eqv.apa (srt_ap s h1) k)
      exact ih h (srt_ap s h1) h2 k1
end RM

/-! part RmClean -/
set_option linter.all false
namespace RM
open VapatBase
open Vapatb (aheadOf behind rowsCommuted)
open Vapatd (blockFrom blockOf rowsMerged withoutAll)

/-! ### the specification's merge is Mg -/
theorem rc_snoc : ∀ (m l : List Step) (p : Step) (m2 l2 : List Step), rowsCommuted (l ++ [p]) m = some (m2, l2) ↔ ∃ m1 p1 l1, Bh p m m1 p1 ∧ rowsCommuted l m1 = some (m2, l1) ∧ l2 = l1 ++ [p1]
  | [], l, p, m2, l2 => by
    simp only [rowsCommuted, Option.some.injEq, Prod.mk.injEq]
    constructor
    · rintro ⟨rfl, rfl⟩
      exact ⟨[], p, l, .nil, rfl, rfl⟩
    · rintro ⟨m1, p1, l1, h, h2, rfl⟩
      cases h
      simp only [rowsCommuted, Option.some.injEq, Prod.mk.injEq] at h2
      obtain ⟨rfl, rfl⟩ := h2
      exact ⟨rfl, rfl⟩
  | q :: m, l, p, m2, l2 => by
    have key : aheadOf (l ++ [p]) q = match commuted p q with
      | none => .error 0
      | some r => match aheadOf l r.1 with
        | .error n => .error (n + 1)
        | .ok s => .ok (s.1, s.2 ++ [r.2]) := by
      induction l with
      | nil =>
        simp only [List.nil_append, aheadOf]
        cases commuted p q <;> rfl
      | cons x l ih =>
        simp only [List.cons_append, aheadOf, ih]
        cases commuted p q with
        | none => rfl
        | some r =>
          simp only
          cases aheadOf l r.1 with
          | error n => rfl
          | ok s =>
            simp only
            cases commuted x s.1 with
            | none => simp
            | some z => rfl
    simp only [rowsCommuted, key]
    cases e : commuted p q with
    | none =>
      simp only
      constructor
      · intro h; cases h
      · rintro ⟨m1, p1, l1, h, _⟩
        cases h with
        | cons e2 h => rw [e] at e2; cases e2
    | some r =>
      simp only
      cases e2 : aheadOf l r.1 with
      | error n =>
        simp only
        constructor
        · intro h; cases h
        · rintro ⟨m1, p1, l1, h, h2, _⟩
          cases h with
          | cons e3 h =>
            rw [e] at e3
            cases e3
            simp only [rowsCommuted, e2] at h2
            cases h2
      | ok s =>
        simp only
        constructor
        · intro h
          cases e3 : rowsCommuted (s.2 ++ [r.2]) m with
          | none => rw [e3] at h; cases h
          | some z =>
            rw [e3] at h
            simp only [Option.map_some, Option.some.injEq, Prod.mk.injEq] at h
            obtain ⟨rfl, rfl⟩ := h
            obtain ⟨m1, p1, l1, f1, f2, f3⟩ := (rc_snoc m s.2 r.2 z.1 z.2).mp (by rw [e3])
            refine ⟨r.1 :: m1, p1, l1, .cons e f1, ?_, f3⟩
            simp only [rowsCommuted, e2, f2]
            rfl
        · rintro ⟨m1, p1, l1, h, h2, rfl⟩
          cases h with
          | cons e3 h =>
            rw [e] at e3
            cases e3
            simp only [rowsCommuted, e2] at h2
            cases e4 : rowsCommuted s.2 _ with
            | none => rw [e4] at h2; cases h2
            | some z =>
              rw [e4] at h2
              simp only [Option.map_some, Option.some.injEq, Prod.mk.injEq] at h2
              obtain ⟨rfl, rfl⟩ := h2
              rw [(rc_snoc m s.2 _ z.1 (z.2 ++ [p1])).mpr ⟨_, p1, z.2, h, by rw [e4], rfl⟩]
              rfl
theorem mg_of_rc : ∀ (a b b' l : List Step), rowsCommuted (turnedAll a) b = some (b', l) → Mg a b b'
  | [], b, b', l, h => by
    have : b' = b := by
      have : ∀ m : List Step, rowsCommuted [] m = some (m, []) := by
        intro m
        induction m with
        | nil => rfl
        | cons q m ih =>
          simp only [rowsCommuted, aheadOf]
          rw [ih]
          rfl
      have e : turnedAll [] = [] := rfl
      rw [e, this] at h
      cases h
      rfl
    subst this
    exact .nil
  | x :: a, b, b', l, h => by
    have e : turnedAll (x :: a) = turnedAll a ++ [turned x] := by simp [turnedAll]
    rw [e] at h
    obtain ⟨m1, p1, l1, f1, f2, _⟩ := (rc_snoc _ _ _ _ _).mp h
    exact .cons f1 (mg_of_rc a m1 b' l1 f2)
theorem rc_of_mg {a b b' : List Step} (h : Mg a b b') : ∃ l, rowsCommuted (turnedAll a) b = some (b', l) := by
  induction h with
  | nil =>
    rename_i D
    refine ⟨[], ?_⟩
    show rowsCommuted [] D = _
    induction D with
    | nil => rfl
    | cons q m ih =>
      simp only [rowsCommuted, aheadOf]
      rw [ih]
      rfl
  | cons e h ih =>
    rename_i x u X D D1 D2
    obtain ⟨l, ih⟩ := ih
    have e' : turnedAll (x :: X) = turnedAll X ++ [turned x] := by simp [turnedAll]
    exact ⟨l ++ [u], by rw [e']; exact (rc_snoc _ _ _ _ _).mpr ⟨_, _, _, e, ih, rfl⟩⟩
theorem mg_of_rm {a b : List Step} {r : List Step × List Step} (h : rowsMerged a b = some r) : Mg a b r.1 := by
  unfold rowsMerged at h
  cases e : rowsCommuted (turnedAll a) b with
  | none => rw [e] at h; cases h
  | some z =>
    rw [e] at h
    cases h
    exact mg_of_rc a b z.1 z.2 (by rw [e])
theorem rm_of_mg {a b b' : List Step} (h : Mg a b b') : ∃ r, rowsMerged a b = some r ∧ r.1 = b' := by
  obtain ⟨l, e⟩ := rc_of_mg h
  unfold rowsMerged
  rw [e]
  exact ⟨_, rfl, rfl⟩
theorem rm_none {a b : List Step} : (rowsMerged a b).isNone = true ↔ ¬ ∃ b', Mg a b b' := by
  constructor
  · rintro h ⟨b', k⟩
    obtain ⟨r, e, _⟩ := rm_of_mg k
    rw [e] at h
    cases h
  · intro h
    cases e : rowsMerged a b with
    | none => rfl
    | some r => exact (h ⟨_, mg_of_rm e⟩).elim

/-! ### what is left -/
/-- the program's way to take a step out of a row -/
def taken (row : List Step) (i : Nat) : List Step := match row.drop i with
  | [] => row
  | p :: l => match behind p l with
    | .ok r => row.take i ++ r.1
    | .error _ => row.take i
def takenAll (row : List Step) : List Nat → List Step
  | [] => row
  | i :: l => takenAll (taken row i) l
theorem stuck_at : ∀ {v : List Step} {p : Step}, (¬ ∃ v' p', Bh p v v' p') → ∃ (j : Nat) (q : Step) (w : List Step) (p1 : Step), v[j]? = some q ∧ Bh p (v.take j) w p1 ∧ commuted p1 q = none
  | [], p, h => (h ⟨_, _, .nil⟩).elim
  | q :: v, p, h => by
    cases e : commuted p q with
    | none => exact ⟨0, q, [], p, rfl, .nil, e⟩
    | some r =>
      obtain ⟨j, q', w, p1, f1, f2, f3⟩ := stuck_at (v := v) (p := r.2) (by
        rintro ⟨v', p', k⟩
        exact h ⟨_, _, .cons (q1 := r.1) e k⟩)
      exact ⟨j + 1, q', r.1 :: w, p1, f1, .cons e f2, f3⟩
theorem bo_pre {r a : List Step} {m i : Nat} (h : r.take m = a.take m) (hi : i < m) : blockOf r i = blockOf a i := by
  have h1 : r[i]? = a[i]? := by
    have := congrArg (fun l => l[i]?) h
    simpa [List.getElem?_take, hi] using this
  have h2 : r.take i = a.take i := by
    have := congrArg (fun l => l.take i) h
    simpa [List.take_take, Nat.min_eq_left (Nat.le_of_lt hi)] using this
  simp only [blockOf, h1, h2]
/-- the row at a stage: m steps as at first; behind them steps that are kept, with the blocks that they had -/
structure Stage (a : List Step) (bad : Nat → Bool) (m : Nat) (r : List Step) : Prop where
  len : m ≤ r.length
  pre : r.take m = a.take m
  kept : ∀ k, m ≤ k → k < r.length → ∃ k0, k0 < a.length ∧ bad k0 = false ∧ blockOf r k = blockOf a k0
  sem : ∀ {t u : Tree}, Srt t → appliedAll t a = some u → ∃ v, appliedAll t r = some v
theorem split_at {r : List Step} {m : Nat} (h : m < r.length) : r = r.take m ++ r[m] :: r.drop (m + 1) := by
  rw [List.getElem_cons_drop h, List.take_append_drop]
theorem stage_down {a : List Step} {bad : Nat → Bool} (hb : ∀ i k Z, i < a.length → k < a.length → Eqv (blockOf a k) (blockOf a i ++ Z) → bad i = true → bad k = true) :
    ∀ (m : Nat) (r : List Step), m ≤ a.length → Stage a bad m r → Stage a bad 0 (withoutAll r ((List.range m).reverse.filter bad)) ∧ takenAll r ((List.range m).reverse.filter bad) = withoutAll r ((List.range m).reverse.filter bad)
  | 0, r, _, S => ⟨S, rfl⟩
  | m + 1, r, hm, S => by
    rw [List.range_succ, List.reverse_append, List.reverse_singleton, List.singleton_append, List.filter_cons]
    have pre' : r.take m = a.take m := by
      have := congrArg (fun l => l.take m) S.pre
      simpa [List.take_take, Nat.min_eq_left (Nat.le_succ m)] using this
    have bm : blockOf r m = blockOf a m := bo_pre S.pre (Nat.lt_succ_self m)
    by_cases c : bad m = true
    · rw [if_pos c]
      have hl : m < r.length := S.len
      have hd : r.drop m = r[m] :: r.drop (m + 1) := (List.getElem_cons_drop hl).symm
      generalize hp : r[m] = p at hd
      generalize hv : r.drop (m + 1) = v at hd
      have er : r = r.take m ++ p :: v := by rw [← hd, List.take_append_drop]
      have hlm : (r.take m).length = m := by rw [List.length_take]; omega
      -- where a step of the rest stands
      have at_ : ∀ j q, v[j]? = some q → r[m + 1 + j]? = some q ∧ (r.take (m + 1 + j)).reverse = (v.take j).reverse ++ p :: (r.take m).reverse := by
        intro j q hj
        have e1 : r[m + 1 + j]? = v[j]? := by rw [← hv, List.getElem?_drop]
        refine ⟨by rw [e1, hj], ?_⟩
        have e2 : r.take (m + 1 + j) = r.take m ++ p :: v.take j := by
          conv => lhs; rw [er]
          rw [List.take_append, hlm, List.take_of_length_le (by rw [hlm]; omega)]
          have : m + 1 + j - m = j + 1 := by omega
          rw [this, List.take_succ_cons]
        rw [e2]
        simp
      have ok : ∃ v' p', Bh p v v' p' := by
        refine Classical.byContradiction fun n => ?_
        obtain ⟨j, q, w, p1, f1, f2, f3⟩ := stuck_at n
        obtain ⟨g1, g2⟩ := at_ j q f1
        have nb := bf_stuck (v.take j).reverse [q] (p := p) (p1 := p1) (w := w) (by rw [List.reverse_reverse]; exact f2) (by
          rintro ⟨X', p', k⟩
          obtain ⟨_, _, k⟩ := k.of_one
          rw [f3] at k
          cases k)
        have hlt : m + 1 + j < r.length := (List.getElem?_eq_some_iff.mp g1).1
        obtain ⟨k0, h0, h1, h2⟩ := S.kept (m + 1 + j) (by omega) hlt
        rw [bo_at g1, g2, bf_app, bf_no nb] at h2
        have e1 : blockOf r m = blockFrom (r.take m).reverse [p] := bo_at (by rw [List.getElem?_eq_getElem hl, hp])
        obtain ⟨Z, z⟩ := bf_within (r.take m).reverse (p :: blockFrom (v.take j).reverse [q]) [p] (blockFrom (v.take j).reverse [q]) .refl
        rw [h2, ← e1, bm] at z
        have := hb m k0 Z (by omega) h0 z c
        rw [h1] at this
        cases this
      obtain ⟨v', p', ok⟩ := ok
      have eb := (bh_iff _ _ _ _).mpr ok
      have ew : Vapatb.without r m = .ok (r.take m ++ v') := by
        unfold Vapatb.without
        rw [hd]
        simp only [eb]
        rfl
      have et : taken r m = r.take m ++ v' := by
        unfold taken
        rw [hd]
        simp only [eb]
      have hlv : v'.length = v.length := ok.len
      have S' : Stage a bad m (r.take m ++ v') := by
        refine ⟨?_, ?_, ?_, ?_⟩
        · rw [List.length_append, hlm]
          omega
        · rw [List.take_append, hlm, List.take_of_length_le (by rw [hlm]; omega), Nat.sub_self, List.take_zero, List.append_nil, pre']
        · intro k hk hk2
          obtain ⟨j, rfl⟩ : ∃ j, k = m + j := ⟨k - m, by omega⟩
          rw [List.length_append, hlm] at hk2
          have hj : j < v.length := by omega
          have hj' : j < v'.length := by omega
          have f1 : v[j]? = some v[j] := List.getElem?_eq_getElem hj
          have f1' : v'[j]? = some v'[j] := List.getElem?_eq_getElem hj'
          obtain ⟨g1, g2⟩ := at_ j v[j] f1
          have hlt : m + 1 + j < r.length := (List.getElem?_eq_some_iff.mp g1).1
          obtain ⟨k0, h0, h1, h2⟩ := S.kept (m + 1 + j) (by omega) hlt
          refine ⟨k0, h0, h1, ?_⟩
          rw [← h2, bo_at g1, g2, bf_app]
          -- the pieces of the rest
          have sv : v = v.take j ++ ([v[j]] ++ v.drop (j + 1)) := by
            rw [List.singleton_append, List.getElem_cons_drop hj, List.take_append_drop]
          have ok' := ok
          rw [sv] at ok'
          obtain ⟨l1, m1, q1, e1, k1, k2⟩ := Bh.part ok'
          obtain ⟨l2, m2, q2, e2, k3, k4⟩ := Bh.part k2
          obtain ⟨x', rfl, k5⟩ := k3.of_one
          have hl1 : l1.length = j := by
            rw [k1.len, List.length_take]
            omega
          have t1 : v'.take j = l1 := by rw [e1, List.take_append, hl1, Nat.sub_self, List.take_zero, List.append_nil, List.take_of_length_le (by omega)]
          have t2 : v'[j] = x' := by
            have : v'[j]? = some x' := by rw [e1, e2, List.getElem?_append_right (by omega), hl1, Nat.sub_self]; rfl
            rw [f1'] at this
            exact Option.some.inj this
          obtain ⟨p3, past⟩ := bf_past (v.take j).reverse [v[j]] (p := p) (p1 := q1) (p2 := q2) (w := l1) (X' := [x']) (by rw [List.reverse_reverse]; exact k1) (.one k5)
          rw [bf_ok past]
          have e3 : (r.take m ++ v')[m + j]? = some v'[j] := by
            rw [List.getElem?_append_right (by omega), hlm, Nat.add_sub_cancel_left, f1']
          rw [bo_at e3, List.take_append, hlm, List.take_of_length_le (by rw [hlm]; omega), Nat.add_sub_cancel_left, t1, t2, List.reverse_append, bf_app]
        · intro t u s h
          obtain ⟨w, h1⟩ := S.sem s h
          rw [er] at h1
          have h2 := (Eqv.pre ok.eqv (r.take m)).apa s h1
          rw [← List.append_assoc] at h2
          obtain ⟨x, h3, _⟩ := apa_app_iff.mp h2
          exact ⟨x, h3⟩
      have := stage_down hb m _ (by omega) S'
      constructor
      · show Stage a bad 0 (withoutAll r (m :: _))
        simp only [withoutAll, ew]
        exact this.1
      · simp only [withoutAll, ew, takenAll, et]
        exact this.2
    · rw [if_neg c]
      refine stage_down hb m r (by omega) ⟨by have := S.len; omega, pre', fun k hk hk2 => ?_, S.sem⟩
      by_cases e : k = m
      · subst e
        exact ⟨k, by omega, by simpa using c, bm⟩
      · exact S.kept k (by omega) hk2
/-- the steps that conflict are taken out -/
theorem left_out {a : List Step} {bad : Nat → Bool} (hb : ∀ i k Z, i < a.length → k < a.length → Eqv (blockOf a k) (blockOf a i ++ Z) → bad i = true → bad k = true) :
    Stage a bad 0 (withoutAll a (((List.range a.length).filter bad).reverse)) ∧ takenAll a (((List.range a.length).filter bad).reverse) = withoutAll a (((List.range a.length).filter bad).reverse) := by
  rw [← List.filter_reverse]
  refine stage_down hb a.length a (Nat.le_refl _) ⟨Nat.le_refl _, rfl, fun k hk hk2 => ?_, fun {t u} _ h => ⟨u, h⟩⟩
  omega
theorem conflict_iff {a b : List Step} {i j : Nat} : Vapatd.conflict a b i j = true ↔ ¬ ∃ F, Mg (blockOf a i) (blockOf b j) F := rm_none
theorem bad_up1 {a b : List Step} : ∀ i k Z, i < a.length → k < a.length → Eqv (blockOf a k) (blockOf a i ++ Z) → ((List.range b.length).any (Vapatd.conflict a b i)) = true → ((List.range b.length).any (Vapatd.conflict a b k)) = true := by
  intro i k Z _ _ e h
  rw [List.any_eq_true] at h ⊢
  obtain ⟨j, hj, h⟩ := h
  refine ⟨j, hj, conflict_iff.mpr ?_⟩
  rintro ⟨F, f⟩
  obtain ⟨D1, g, _⟩ := Mg.part (e.mg f)
  exact conflict_iff.mp h ⟨_, g⟩
theorem bad_up2 {a b : List Step} : ∀ j k Z, j < b.length → k < b.length → Eqv (blockOf b k) (blockOf b j ++ Z) → ((List.range a.length).any fun i => Vapatd.conflict a b i j) = true → ((List.range a.length).any fun i => Vapatd.conflict a b i k) = true := by
  intro j k Z _ _ e h
  rw [List.any_eq_true] at h ⊢
  obtain ⟨i, hi, h⟩ := h
  refine ⟨i, hi, conflict_iff.mpr ?_⟩
  rintro ⟨F, f⟩
  obtain ⟨F', f'⟩ := f.symm
  obtain ⟨D1, g, _⟩ := Mg.part (e.mg f')
  exact conflict_iff.mp h g.symm
/-- both rows' rests, by the program's way and by the specification's -/
theorem left_both (a b : List Step) :
    (takenAll a (Vapatd.leftOut1 a b).reverse = withoutAll a (Vapatd.leftOut1 a b).reverse) ∧ (takenAll b (Vapatd.leftOut2 a b).reverse = withoutAll b (Vapatd.leftOut2 a b).reverse) ∧
    (∃ r, rowsMerged (withoutAll a (Vapatd.leftOut1 a b).reverse) (withoutAll b (Vapatd.leftOut2 a b).reverse) = some r) ∧
    (∀ {t ta tb : Tree}, Srt t → appliedAll t a = some ta → appliedAll t b = some tb → (∃ u, appliedAll t (withoutAll a (Vapatd.leftOut1 a b).reverse) = some u) ∧ (∃ u, appliedAll t (withoutAll b (Vapatd.leftOut2 a b).reverse) = some u)) := by
  obtain ⟨S1, e1⟩ := left_out (a := a) (bad := fun i => (List.range b.length).any (Vapatd.conflict a b i)) bad_up1
  obtain ⟨S2, e2⟩ := left_out (a := b) (bad := fun j => (List.range a.length).any fun i => Vapatd.conflict a b i j) bad_up2
  refine ⟨e1, e2, ?_, fun {t ta tb} s h1 h2 => ⟨S1.sem s h1, S2.sem s h2⟩⟩
  have : ∃ b', Mg (withoutAll a (Vapatd.leftOut1 a b).reverse) (withoutAll b (Vapatd.leftOut2 a b).reverse) b' := by
    refine mg_all fun i j hi hj => ?_
    obtain ⟨i0, a1, a2, a3⟩ := S1.kept i (Nat.zero_le _) hi
    obtain ⟨j0, b1, b2, b3⟩ := S2.kept j (Nat.zero_le _) hj
    have a3' : blockOf (withoutAll a (Vapatd.leftOut1 a b).reverse) i = blockOf a i0 := a3
    have b3' : blockOf (withoutAll b (Vapatd.leftOut2 a b).reverse) j = blockOf b j0 := b3
    rw [a3', b3']
    refine Classical.byContradiction fun n => ?_
    have h := conflict_iff.mpr n
    have a2' : ((List.range b.length).any (Vapatd.conflict a b i0)) = false := a2
    rw [List.any_eq_false] at a2'
    exact a2' j0 (List.mem_range.mpr b1) h
  obtain ⟨b', h⟩ := this
  obtain ⟨r, e, _⟩ := rm_of_mg h
  exact ⟨r, e⟩
end RM

/-! part RmRead -/
set_option linter.all false
namespace RM
open VapatBase
/-! ### the program's way to read steps and trees -/
def isNm (z : Int) : Bool := decide (0 ≤ z ∧ z ≤ 9)
def isTok (z : Int) : Bool := decide (0 ≤ z ∧ z ≤ 99)
def counted (ns : List Int) (at_ most : Nat) : Option (List Nat) := match ns[at_]? with
  | none => none
  | some c => if 0 ≤ c ∧ c ≤ most then (if (at_ : Int) + c ≥ ns.length then none else (if ((ns.drop (at_ + 1)).take c.toNat).all isTok = true then some (((ns.drop (at_ + 1)).take c.toNat).map Int.toNat) else none)) else none
def at0 (ns : List Int) (i : Nat) : Int := (ns[i]?).getD 0
def hunkOf (ns : List Int) : Option Step :=
  if ns.length < 5 then none else if isNm (at0 ns 1) = true then (if 0 ≤ at0 ns 2 ∧ at0 ns 2 ≤ 1000 then (match counted ns 3 8 with
    | none => none
    | some old => match counted ns (4 + old.length) 8 with
      | none => none
      | some new => if ns.length ≠ 5 + old.length + new.length then none else if old.length + new.length = 0 then none else some (.hunk (at0 ns 1).toNat (at0 ns 2).toNat old new)) else none) else none
def swapOf (ns : List Int) : Option Step :=
  if ns.length ≠ 4 then none else if isNm (at0 ns 1) = true then (if (ns.drop 2).all isTok = true then (if at0 ns 2 = at0 ns 3 then none else some (.swap (at0 ns 1).toNat (at0 ns 2).toNat (at0 ns 3).toNat)) else none) else none
def moveOf (ns : List Int) : Option Step :=
  if ns.length ≠ 3 then none else if isNm (at0 ns 1) = true then (if isNm (at0 ns 2) = true then (if at0 ns 1 = at0 ns 2 then none else some (.move (at0 ns 1).toNat (at0 ns 2).toNat)) else none) else none
def stepOf (ns : List Int) : Option Step :=
  if ns.length = 0 then none else if at0 ns 0 = 0 then hunkOf ns else if at0 ns 0 = 1 then swapOf ns else if at0 ns 0 = 4 then moveOf ns
  else if ¬ (at0 ns 0 = 2 ∨ at0 ns 0 = 3) then none else if ns.length ≠ 2 then none else if isNm (at0 ns 1) = true then some (if at0 ns 0 = 2 then .add (at0 ns 1).toNat else .remove (at0 ns 1).toNat) else none

/-! ### it is the specification's -/
theorem rn_cons (least most : Nat) (z : Int) (r : List Int) : readNat least most (z :: r) = if int least ≤ z ∧ z ≤ int most then some (z.toNat, r) else none := rfl
theorem rt_toks : ∀ (n : Nat) (l : List Int), readTimes (readNat 0 99) n l = if n ≤ l.length ∧ (l.take n).all isTok = true then some ((l.take n).map Int.toNat, l.drop n) else none
  | 0, l => by simp [readTimes]
  | n + 1, [] => by simp [readTimes, readNat]
  | n + 1, z :: l => by
    have ih := rt_toks n l
    simp only [readTimes, rn_cons, List.length_cons, List.take_succ_cons, List.all_cons, List.map_cons, List.drop_succ_cons]
    by_cases c : int 0 ≤ z ∧ z ≤ int 99
    · have c' : isTok z = true := by
        simp only [isTok, decide_eq_true_eq]
        simpa [int] using c
      rw [if_pos c]
      simp only [Option.bind_some, ih, c', Bool.true_and]
      by_cases d : n ≤ l.length ∧ (l.take n).all isTok = true
      · rw [if_pos d, if_pos ⟨by omega, d.2⟩]
        rfl
      · rw [if_neg d, if_neg]
        · rfl
        · rintro ⟨h1, h2⟩
          exact d ⟨by omega, h2⟩
    · have c' : isTok z = false := by
        simp only [isTok, decide_eq_false_iff_not]
        intro h
        exact c (by simpa [int] using h)
      rw [if_neg c, c']
      simp
theorem read_toks (ns : List Int) (at_ most : Nat) : readTokens most (ns.drop at_) = (counted ns at_ most).map fun l => (l, ns.drop (at_ + 1 + l.length)) := by
  unfold readTokens readListed counted
  cases e : ns[at_]? with
  | none =>
    have : ns.drop at_ = [] := List.drop_eq_nil_of_le (List.getElem?_eq_none_iff.mp e)
    rw [this]
    rfl
  | some c =>
    obtain ⟨h1, h2⟩ := List.getElem?_eq_some_iff.mp e
    have : ns.drop at_ = c :: ns.drop (at_ + 1) := by rw [← h2, List.getElem_cons_drop]
    rw [this, rn_cons]
    by_cases k : 0 ≤ c ∧ c ≤ (most : Int)
    · simp only
      rw [if_pos (by simpa [int] using k), if_pos k]
      simp only [Option.bind_some]
      show readTimes (readNat 0 99) c.toNat (ns.drop (at_ + 1)) = _
      rw [rt_toks, List.length_drop]
      by_cases l : (at_ : Int) + c ≥ ns.length
      · rw [if_pos l, if_neg (by omega)]
        rfl
      · rw [if_neg l]
        by_cases m : ((ns.drop (at_ + 1)).take c.toNat).all isTok = true
        · rw [if_pos ⟨by omega, m⟩, if_pos m]
          simp only [Option.map_some, List.drop_drop, Option.some.injEq, Prod.mk.injEq, true_and]
          rw [List.length_map, List.length_take, List.length_drop]
          congr 1
          omega
        · rw [if_neg (fun h => m h.2), if_neg m]
          rfl
    · simp only
      rw [if_neg (by simpa [int] using k), if_neg k]
      rfl
theorem nm_iff {z : Int} : isNm z = true ↔ int 0 ≤ z ∧ z ≤ int (NAMES - 1) := by simp [isNm, int, NAMES]
theorem tk_iff {z : Int} : isTok z = true ↔ int 0 ≤ z ∧ z ≤ int (TOKENS - 1) := by simp [isTok, int, TOKENS]
theorem counted_len {ns : List Int} {at_ most : Nat} {l : List Nat} (h : counted ns at_ most = some l) : l.length ≤ most ∧ at_ + l.length < ns.length ∧ ∀ x ∈ l, x < 100 := by
  unfold counted at h
  cases e : ns[at_]? with
  | none => rw [e] at h; cases h
  | some c =>
    rw [e] at h
    simp only at h
    split at h
    · split at h
      · cases h
      · split at h
        · rename_i k1 k2 k3
          cases h
          refine ⟨?_, ?_, ?_⟩
          · rw [List.length_map, List.length_take]
            omega
          · rw [List.length_map, List.length_take, List.length_drop]
            omega
          · intro x hx
            obtain ⟨z, hz, rfl⟩ := List.mem_map.mp hx
            have := List.all_eq_true.mp k3 z hz
            simp only [isTok, decide_eq_true_eq] at this
            omega
        · cases h
    · cases h
def okk (u : Step × List Int) : Option (Step × List Int) := if okStep u.1 then some u else none
theorem ite_nn {α : Type} {c : Prop} [Decidable c] {x : Option α} (h : x = none) : (if c then none else x) = none := by
  rw [h]
  split <;> rfl
def fin (x : Option (Step × List Int)) : Option Step := match x with
  | some (u, []) => some u
  | _ => none
theorem whole_eq (x : List Int) : whole readStep x = fin (readStep x) := by
  unfold whole fin
  cases readStep x with
  | none => rfl
  | some u =>
    obtain ⟨u, l⟩ := u
    cases l <;> rfl
theorem fin_no {u : Step} {l : List Int} (h : l ≠ []) : fin (some (u, l)) = none := by
  cases l with
  | nil => exact (h rfl).elim
  | cons _ _ => rfl
theorem fin_yes {u : Step} {l : List Int} (h : l = []) : fin (some (u, l)) = some u := by
  subst h
  rfl
theorem hunk_is (r : List Int) : whole readStep (0 :: r) = hunkOf (0 :: r) := by
  rw [whole_eq]
  show fin ((readPair (readNat 0 (NAMES - 1)) (readPair (readNat 0 PLACE) (readPair (readTokens SIDE) (readTokens SIDE))) r).bind (fun u => okk (.hunk u.1.1 u.1.2.1 u.1.2.2.1 u.1.2.2.2, u.2))) = _
  unfold hunkOf
  match r with
  | [] => rfl
  | [f] =>
    rw [if_pos (by show 2 < 5; decide)]
    simp only [readPair, rn_cons]
    by_cases cf : int 0 ≤ f ∧ f ≤ int (NAMES - 1)
    · rw [if_pos cf]
      rfl
    · rw [if_neg cf]
      rfl
  | f :: a :: r =>
    have e1 : at0 (0 :: f :: a :: r) 1 = f := rfl
    have e2 : at0 (0 :: f :: a :: r) 2 = a := rfl
    have d3 : r = (0 :: f :: a :: r).drop 3 := rfl
    have lN : (0 :: f :: a :: r).length = r.length + 3 := rfl
    generalize (0 :: f :: a :: r : List Int) = N at *
    simp only [readPair, rn_cons]
    by_cases cf : isNm f = true
    · rw [if_pos (nm_iff.mp cf)]
      simp only [Option.bind_some, rn_cons]
      by_cases ca : 0 ≤ a ∧ a ≤ 1000
      · rw [if_pos (show int 0 ≤ a ∧ a ≤ int PLACE by simpa [int, PLACE] using ca)]
        simp only [Option.bind_some]
        rw [d3, show SIDE = 8 from rfl, read_toks]
        rw [e1, e2, if_pos cf, if_pos ca]
        cases eo : counted N 3 8 with
        | none =>
          symm
          exact ite_nn rfl
        | some old =>
          obtain ⟨lo, lo2, to⟩ := counted_len eo
          simp only [Option.map_some, Option.bind_some]
          rw [show 3 + 1 + old.length = 4 + old.length by omega, read_toks]
          cases en : counted N (4 + old.length) 8 with
          | none =>
            symm
            exact ite_nn rfl
          | some new =>
            obtain ⟨ln, ln2, tn⟩ := counted_len en
            simp only [Option.map_some, Option.bind_some]
            rw [if_neg (by omega)]
            have ok : okStep (.hunk f.toNat a.toNat old new) = !(old.isEmpty && new.isEmpty) := by
              have t1 : okTokens 8 old = true := by
                simp only [okTokens, Bool.and_eq_true, decide_eq_true_eq, List.all_eq_true]
                exact ⟨lo, to⟩
              have t2 : okTokens 8 new = true := by
                simp only [okTokens, Bool.and_eq_true, decide_eq_true_eq, List.all_eq_true]
                exact ⟨ln, tn⟩
              have t3 : f.toNat < 10 := by
                have := nm_iff.mp cf
                simp only [int, NAMES] at this
                omega
              have t4 : a.toNat ≤ 1000 := by omega
              simp [okStep, SIDE, NAMES, PLACE, t1, t2, t3, t4]
            unfold okk
            rw [ok]
            by_cases z : old.length + new.length = 0
            · have z1 : old = [] := List.length_eq_zero_iff.mp (by omega)
              have z2 : new = [] := List.length_eq_zero_iff.mp (by omega)
              subst z1 z2
              rw [if_neg (by decide)]
              symm
              exact ite_nn rfl
            · have z' : (!(old.isEmpty && new.isEmpty)) = true := by
                cases old <;> cases new <;> first | rfl | (exact absurd rfl z)
              rw [if_pos z', if_neg z]
              by_cases le : N.length ≠ 5 + old.length + new.length
              · rw [if_pos le]
                have : N.drop (4 + old.length + 1 + new.length) ≠ [] := by
                  intro e
                  have := congrArg List.length e
                  rw [List.length_drop] at this
                  simp only [List.length_nil] at this
                  omega
                exact fin_no this
              · rw [if_neg le]
                have : N.drop (4 + old.length + 1 + new.length) = [] := List.drop_eq_nil_of_le (by omega)
                exact fin_yes this
      · rw [if_neg (show ¬ (int 0 ≤ a ∧ a ≤ int PLACE) by simpa [int, PLACE] using ca), e1, e2, if_pos cf, if_neg ca]
        symm
        exact ite_nn rfl
    · rw [if_neg (fun h => cf (nm_iff.mpr h)), e1, if_neg cf]
      symm
      exact ite_nn rfl
theorem swap_is (r : List Int) : whole readStep (1 :: r) = swapOf (1 :: r) := by
  rw [whole_eq]
  show fin ((readPair (readNat 0 (NAMES - 1)) (readPair (readNat 0 (TOKENS - 1)) (readNat 0 (TOKENS - 1))) r).bind (fun u => okk (.swap u.1.1 u.1.2.1 u.1.2.2, u.2))) = _
  unfold swapOf
  match r with
  | [] => rfl
  | [f] =>
    rw [if_pos (by show 2 ≠ 4; decide)]
    simp only [readPair, rn_cons]
    by_cases cf : int 0 ≤ f ∧ f ≤ int (NAMES - 1)
    · rw [if_pos cf]
      rfl
    · rw [if_neg cf]
      rfl
  | [f, x] =>
    rw [if_pos (by show 3 ≠ 4; decide)]
    simp only [readPair, rn_cons]
    by_cases cf : int 0 ≤ f ∧ f ≤ int (NAMES - 1)
    · rw [if_pos cf]
      simp only [Option.bind_some, rn_cons]
      by_cases cx : int 0 ≤ x ∧ x ≤ int (TOKENS - 1)
      · rw [if_pos cx]
        rfl
      · rw [if_neg cx]
        rfl
    · rw [if_neg cf]
      rfl
  | f :: x :: y :: r =>
    have e1 : at0 (1 :: f :: x :: y :: r) 1 = f := rfl
    have e2 : at0 (1 :: f :: x :: y :: r) 2 = x := rfl
    have e3 : at0 (1 :: f :: x :: y :: r) 3 = y := rfl
    have e4 : (1 :: f :: x :: y :: r).drop 2 = x :: y :: r := rfl
    have lN : (1 :: f :: x :: y :: r).length = r.length + 4 := rfl
    generalize (1 :: f :: x :: y :: r : List Int) = N at *
    rw [e1, e2, e3, e4, lN]
    simp only [readPair, rn_cons]
    by_cases cf : isNm f = true
    · rw [if_pos (nm_iff.mp cf), if_pos cf]
      simp only [Option.bind_some, rn_cons]
      have tf : f.toNat < 10 := by
        have := nm_iff.mp cf
        simp only [int, NAMES] at this
        omega
      by_cases cx : isTok x = true
      · rw [if_pos (tk_iff.mp cx)]
        simp only [Option.bind_some, rn_cons]
        have tx := tk_iff.mp cx
        simp only [int, TOKENS] at tx
        by_cases cy : isTok y = true
        · rw [if_pos (tk_iff.mp cy)]
          have ty := tk_iff.mp cy
          simp only [int, TOKENS] at ty
          simp only [Option.bind_some, Option.map_some]
          have ok : okStep (.swap f.toNat x.toNat y.toNat) = (x.toNat != y.toNat) := by
            have t1 : x.toNat < 100 := by omega
            have t2 : y.toNat < 100 := by omega
            simp [okStep, NAMES, TOKENS, tf, t1, t2]
          unfold okk
          rw [ok]
          cases r with
          | cons z r =>
            rw [if_pos (show (z :: r).length + 4 ≠ 4 by simp only [List.length_cons]; omega)]
            split <;> rfl
          | nil =>
            rw [if_neg (show ¬ ([] : List Int).length + 4 ≠ 4 by decide), if_pos (show ([x, y] : List Int).all isTok = true by simp only [List.all_cons, List.all_nil, cx, cy]; rfl)]
            by_cases exy : x = y
            · subst exy
              rw [if_neg (show ¬ (x.toNat != x.toNat) = true by simp), if_pos (show x = x from rfl)]
              rfl
            · have : (x.toNat != y.toNat) = true := by
                simp only [bne_iff_ne, ne_eq]
                omega
              rw [if_pos this, if_neg exy]
              rfl
        · rw [if_neg (fun h => cy (tk_iff.mpr h)), if_neg (show ¬ (x :: y :: r).all isTok = true by simp only [List.all_cons, cx, Bool.eq_false_iff.mpr cy]; simp)]
          symm
          exact ite_nn rfl
      · rw [if_neg (fun h => cx (tk_iff.mpr h)), if_neg (show ¬ (x :: y :: r).all isTok = true by simp only [List.all_cons, Bool.eq_false_iff.mpr cx]; simp)]
        symm
        exact ite_nn rfl
    · rw [if_neg (fun h => cf (nm_iff.mpr h)), if_neg cf]
      symm
      exact ite_nn rfl
theorem move_is (r : List Int) : whole readStep (4 :: r) = moveOf (4 :: r) := by
  rw [whole_eq]
  show fin ((readPair (readNat 0 (NAMES - 1)) (readNat 0 (NAMES - 1)) r).bind (fun u => okk (.move u.1.1 u.1.2, u.2))) = _
  unfold moveOf
  match r with
  | [] => rfl
  | [f] =>
    rw [if_pos (by show 2 ≠ 3; decide)]
    simp only [readPair, rn_cons]
    by_cases cf : int 0 ≤ f ∧ f ≤ int (NAMES - 1)
    · rw [if_pos cf]
      rfl
    · rw [if_neg cf]
      rfl
  | f :: g :: r =>
    have e1 : at0 (4 :: f :: g :: r) 1 = f := rfl
    have e2 : at0 (4 :: f :: g :: r) 2 = g := rfl
    have lN : (4 :: f :: g :: r).length = r.length + 3 := rfl
    generalize (4 :: f :: g :: r : List Int) = N at *
    rw [e1, e2, lN]
    simp only [readPair, rn_cons]
    by_cases cf : isNm f = true
    · rw [if_pos (nm_iff.mp cf), if_pos cf]
      simp only [Option.bind_some, rn_cons]
      have tf := nm_iff.mp cf
      simp only [int, NAMES] at tf
      by_cases cg : isNm g = true
      · rw [if_pos (nm_iff.mp cg), if_pos cg]
        have tg := nm_iff.mp cg
        simp only [int, NAMES] at tg
        simp only [Option.bind_some, Option.map_some]
        have ok : okStep (.move f.toNat g.toNat) = (f.toNat != g.toNat) := by
          have t1 : f.toNat < 10 := by omega
          have t2 : g.toNat < 10 := by omega
          simp [okStep, NAMES, t1, t2]
        unfold okk
        rw [ok]
        cases r with
        | cons z r =>
          rw [if_pos (show (z :: r).length + 3 ≠ 3 by simp only [List.length_cons]; omega)]
          split <;> rfl
        | nil =>
          rw [if_neg (show ¬ ([] : List Int).length + 3 ≠ 3 by decide)]
          by_cases efg : f = g
          · subst efg
            rw [if_neg (show ¬ (f.toNat != f.toNat) = true by simp), if_pos (show f = f from rfl)]
            rfl
          · have : (f.toNat != g.toNat) = true := by
              simp only [bne_iff_ne, ne_eq]
              omega
            rw [if_pos this, if_neg efg]
            rfl
      · rw [if_neg (fun h => cg (nm_iff.mpr h)), if_neg cg]
        symm
        exact ite_nn rfl
    · rw [if_neg (fun h => cf (nm_iff.mpr h)), if_neg cf]
      symm
      exact ite_nn rfl
theorem rest_is (S : Nat → Step) (r : List Int) : fin ((readNat 0 (NAMES - 1) r).map (fun u => (S u.1, u.2))) = if r.length + 1 ≠ 2 then none else if isNm (at0 r 0) = true then some (S (at0 r 0).toNat) else none := by
  match r with
  | [] => rfl
  | [f] =>
    rw [if_neg (by show ¬ 1 + 1 ≠ 2; decide), rn_cons, show at0 [f] 0 = f from rfl]
    by_cases cf : isNm f = true
    · rw [if_pos (nm_iff.mp cf), if_pos cf]
      rfl
    · rw [if_neg (fun h => cf (nm_iff.mpr h)), if_neg cf]
      rfl
  | f :: g :: r =>
    rw [if_pos (by simp), rn_cons]
    by_cases cf : int 0 ≤ f ∧ f ≤ int (NAMES - 1)
    · rw [if_pos cf]
      rfl
    · rw [if_neg cf]
      rfl
theorem step_is (ns : List Int) : whole readStep ns = stepOf ns := by
  match ns with
  | [] => rfl
  | k :: r =>
    unfold stepOf
    rw [if_neg (by simp), show at0 (k :: r) 0 = k from rfl]
    by_cases c0 : k = 0
    · subst c0
      rw [if_pos rfl]
      exact hunk_is r
    · rw [if_neg c0]
      by_cases c1 : k = 1
      · subst c1
        rw [if_pos rfl]
        exact swap_is r
      · rw [if_neg c1]
        by_cases c4 : k = 4
        · subst c4
          rw [if_pos rfl]
          exact move_is r
        · rw [if_neg c4]
          by_cases c2 : k = 2
          · subst c2
            rw [if_neg (by decide)]
            exact (whole_eq _).trans ((rest_is .add r).trans rfl)
          · by_cases c3 : k = 3
            · subst c3
              rw [if_neg (by decide)]
              exact (whole_eq _).trans ((rest_is .remove r).trans rfl)
            · rw [if_pos (by rintro (h | h) <;> contradiction)]
              rw [whole_eq]
              unfold readStep
              split <;> first | rfl | (rename_i h; simp only [List.cons.injEq] at h; exfalso; omega)

/-! ### trees read -/
open Vapatb (readTree rises)
def treeGo (ns : List Int) : Nat → Nat → Int → Tree → Option (Tree × Nat)
  | 0, at_, _, acc => some (acc, at_)
  | n + 1, at_, last, acc => match ns[at_]? with
    | none => none
    | some f => if isNm f = true then (if f ≤ last then none else match counted ns (at_ + 1) 12 with
      | none => none
      | some l => treeGo ns n (at_ + 2 + l.length) f (acc ++ [(f.toNat, l)])) else none
def treeOf (ns : List Int) : Option Tree := if ns.length = 0 then none else if 0 ≤ at0 ns 0 ∧ at0 ns 0 ≤ 6 then (match treeGo ns (at0 ns 0).toNat 1 (-1) [] with
  | none => none
  | some r => if r.2 ≠ ns.length then none else some r.1) else none
def risesFrom (last : Int) : List Nat → Bool
  | [] => true
  | f :: r => decide (last < (f : Int)) && risesFrom f r
theorem rises_from : ∀ (l : List Nat) (f : Nat), rises (f :: l) = risesFrom f l
  | [], _ => rfl
  | g :: l, f => by
    simp only [rises, risesFrom, rises_from l g]
    congr 1
    simp
theorem rises_all (l : List Nat) : rises l = risesFrom (-1) l := by
  cases l with
  | nil => rfl
  | cons f l =>
    rw [rises_from]
    simp only [risesFrom]
    have : decide ((-1 : Int) < (f : Int)) = true := by simp; omega
    rw [this]
    rfl
abbrev R1 : Reader (Nat × Tokens) := readPair (readNat 0 (NAMES - 1)) (readTokens 12)
theorem tree_go (ns : List Int) : ∀ (n at_ : Nat) (last : Int) (acc : Tree), at_ ≤ ns.length → treeGo ns n at_ last acc = (readTimes R1 n (ns.drop at_)).bind fun r => if risesFrom last (r.1.map fun x => x.1) = true then some (acc ++ r.1, ns.length - r.2.length) else none
  | 0, at_, last, acc, h => by
    simp only [treeGo, readTimes, Option.bind_some, List.map_nil, risesFrom, if_true, List.append_nil, List.length_drop]
    congr 2
    omega
  | n + 1, at_, last, acc, h => by
    simp only [treeGo, readTimes]
    cases e : ns[at_]? with
    | none =>
      have : ns.drop at_ = [] := List.drop_eq_nil_of_le (List.getElem?_eq_none_iff.mp e)
      rw [this]
      rfl
    | some f =>
      obtain ⟨h1, h2⟩ := List.getElem?_eq_some_iff.mp e
      have hd : ns.drop at_ = f :: ns.drop (at_ + 1) := by rw [← h2, List.getElem_cons_drop]
      rw [hd]
      simp only [R1, readPair, rn_cons]
      by_cases cf : isNm f = true
      · have nn := nm_iff.mp cf
        rw [if_pos cf, if_pos nn]
        simp only [Option.bind_some]
        rw [read_toks]
        cases el : counted ns (at_ + 1) 12 with
        | none =>
          simp only [Option.map_none, Option.bind_none]
          split <;> rfl
        | some l =>
          obtain ⟨l1, l2, _⟩ := counted_len el
          simp only [Option.map_some, Option.bind_some]
          rw [tree_go ns n (at_ + 2 + l.length) f _ (by omega), show at_ + 1 + 1 + l.length = at_ + 2 + l.length by omega]
          show _ = ((readTimes R1 n (ns.drop (at_ + 2 + l.length))).map _).bind _
          have ff : ((f.toNat : Nat) : Int) = f := by
            simp only [int] at nn
            omega
          cases er : readTimes R1 n (ns.drop (at_ + 2 + l.length)) with
          | none =>
            simp only [Option.bind_none, Option.map_none]
            split <;> rfl
          | some r =>
            simp only [Option.bind_some, Option.map_some, List.map_cons, risesFrom, ff, Bool.and_eq_true, decide_eq_true_eq]
            by_cases cl : f ≤ last
            · rw [if_pos cl, if_neg (by intro h; omega)]
            · rw [if_neg cl]
              by_cases cr : risesFrom f (r.1.map fun x => x.1) = true
              · rw [if_pos cr, if_pos ⟨by omega, cr⟩]
                simp
              · rw [if_neg cr, if_neg (fun h => cr h.2)]
      · rw [if_neg cf, if_neg (fun h => cf (nm_iff.mpr h))]
        rfl
theorem read_times_le (ns : List Int) : ∀ (n at_ : Nat) (t : Tree) (r : List Int), readTimes R1 n (ns.drop at_) = some (t, r) → r.length ≤ ns.length - at_
  | 0, at_, t, r, h => by
    simp only [readTimes, Option.some.injEq, Prod.mk.injEq] at h
    rw [← h.2, List.length_drop]
    exact Nat.le_refl _
  | n + 1, at_, t, r, h => by
    simp only [readTimes] at h
    cases e : R1 (ns.drop at_) with
    | none => rw [e] at h; cases h
    | some u =>
      rw [e] at h
      simp only [Option.bind_some] at h
      cases e2 : readTimes R1 n u.2 with
      | none => rw [e2] at h; cases h
      | some v =>
        rw [e2] at h
        simp only [Option.map_some, Option.some.injEq, Prod.mk.injEq] at h
        obtain ⟨_, rfl⟩ := h
        -- where the rest stands
        have : ∃ b, at_ ≤ b ∧ u.2 = ns.drop b := by
          simp only [R1, readPair] at e
          cases e3 : ns[at_]? with
          | none =>
            have : ns.drop at_ = [] := List.drop_eq_nil_of_le (List.getElem?_eq_none_iff.mp e3)
            rw [this] at e
            cases e
          | some f =>
            obtain ⟨h1, h2⟩ := List.getElem?_eq_some_iff.mp e3
            have hd : ns.drop at_ = f :: ns.drop (at_ + 1) := by rw [← h2, List.getElem_cons_drop]
            rw [hd, rn_cons] at e
            split at e
            · simp only [Option.bind_some, read_toks] at e
              cases e4 : counted ns (at_ + 1) 12 with
              | none => rw [e4] at e; cases e
              | some l =>
                rw [e4] at e
                simp only [Option.map_some, Option.some.injEq] at e
                rw [← e]
                exact ⟨_, by omega, rfl⟩
            · cases e
        obtain ⟨b, hb, eb⟩ := this
        rw [eb] at e2
        have := read_times_le ns n b v.1 v.2 e2
        omega
theorem tree_is (ns : List Int) : whole readTree ns = treeOf ns := by
  match ns with
  | [] => rfl
  | k :: r =>
    unfold treeOf
    rw [if_neg (by simp), show at0 (k :: r) 0 = k from rfl]
    have e0 : readTree (k :: r) = ((if int 0 ≤ k ∧ k ≤ int 6 then some (k.toNat, r) else none).bind fun n => readTimes R1 n.1 n.2).bind fun u => if rises (u.1.map fun y => y.1) then some u else none := rfl
    unfold whole
    rw [e0]
    by_cases ck : 0 ≤ k ∧ k ≤ 6
    · rw [if_pos (show int 0 ≤ k ∧ k ≤ int 6 by simpa [int] using ck), if_pos ck]
      simp only [Option.bind_some]
      rw [tree_go (k :: r) k.toNat 1 (-1) [] (by simp)]
      rw [show (k :: r).drop 1 = r from rfl]
      cases er : readTimes R1 k.toNat r with
      | none => rfl
      | some u =>
        obtain ⟨t, rest⟩ := u
        simp only [Option.bind_some, rises_all]
        by_cases c : risesFrom (-1) (t.map fun x => x.1) = true
        · rw [if_pos c, if_pos c]
          have le := read_times_le (k :: r) k.toNat 1 t rest er
          simp only [List.nil_append]
          cases rest with
          | nil => simp
          | cons z rest =>
            rw [if_pos]
            simp only [List.length_cons] at le ⊢
            omega
        · rw [if_neg c, if_neg c]
    · rw [if_neg (show ¬ (int 0 ≤ k ∧ k ≤ int 6) by simpa [int] using ck), if_neg ck]
      rfl
/-- a tree as it is read -/
structure Fresh (t : Tree) : Prop where
  srt : t.Pairwise fun x y => x.1 < y.1
  nm : ∀ x ∈ t, x.1 < 10
  tk : ∀ x ∈ t, x.2.length ≤ 12
theorem tree_go_ok (ns : List Int) : ∀ (n at_ : Nat) (last : Int) (acc t : Tree) (b : Nat), treeGo ns n at_ last acc = some (t, b) → Fresh acc → (∀ x ∈ acc, (x.1 : Int) ≤ last) → Fresh t
  | 0, at_, last, acc, t, b, h, F, _ => by
    simp only [treeGo, Option.some.injEq, Prod.mk.injEq] at h
    rw [← h.1]
    exact F
  | n + 1, at_, last, acc, t, b, h, F, hl => by
    simp only [treeGo] at h
    cases e : ns[at_]? with
    | none => rw [e] at h; cases h
    | some f =>
      rw [e] at h
      simp only at h
      split at h
      · rename_i cf
        split at h
        · cases h
        · rename_i cl
          cases el : counted ns (at_ + 1) 12 with
          | none => rw [el] at h; cases h
          | some l =>
            rw [el] at h
            simp only at h
            obtain ⟨l1, _, _⟩ := counted_len el
            have nn := nm_iff.mp cf
            simp only [int, NAMES] at nn
            refine tree_go_ok ns n _ f _ t b h ⟨?_, ?_, ?_⟩ ?_
            · refine List.pairwise_append.mpr ⟨F.srt, List.pairwise_singleton _ _, fun x hx y hy => ?_⟩
              rw [List.mem_singleton.mp hy]
              have := hl x hx
              show x.1 < f.toNat
              omega
            · intro x hx
              rcases List.mem_append.mp hx with hx | hx
              · exact F.nm x hx
              · rw [List.mem_singleton.mp hx]
                show f.toNat < 10
                omega
            · intro x hx
              rcases List.mem_append.mp hx with hx | hx
              · exact F.tk x hx
              · rw [List.mem_singleton.mp hx]
                exact l1
            · intro x hx
              rcases List.mem_append.mp hx with hx | hx
              · have := hl x hx
                omega
              · rw [List.mem_singleton.mp hx]
                show ((f.toNat : Nat) : Int) ≤ f
                omega
      · cases h
theorem fresh_of {ns : List Int} {t : Tree} (h : treeOf ns = some t) : Fresh t := by
  unfold treeOf at h
  split at h
  · cases h
  · split at h
    · cases e : treeGo ns (at0 ns 0).toNat 1 (-1) [] with
      | none => rw [e] at h; cases h
      | some r =>
        rw [e] at h
        simp only at h
        split at h
        · cases h
        · cases h
          exact tree_go_ok ns _ _ _ _ _ r.2 e ⟨List.Pairwise.nil, fun _ hx => (nomatch hx), fun _ hx => (nomatch hx)⟩ (fun _ hx => (nomatch hx))
    · cases h
end RM

/-! part RwTop -/
set_option Elab.async false
set_option linter.all false
set_option maxRecDepth 100000
set_option maxHeartbeats 4000000
/-! The program's text by places; what the top has written, as facts. Printed by a program of ours. -/
namespace Rw
open PySem PySem.Spec PyProof.Rows L2
def top (i : Nat) : Stmt := PySem.Challenge.pw_rowsmerged_s01_answers.main.body.getD i (.Pass ⟨0, 0, 0, 0⟩)
abbrev s_Step_init : Stmt := inClass (top 10) 0
abbrev n_Step_init : List Str := ["self", "kind", "name", "place", "old", "new", "goal"]
theorem sc_Step_init : FnScope n_Step_init ["self", "kind", "name", "place", "old", "new", "goal"] (defScope s_Step_init) := ⟨rfl, rfl, rfl, by decide +kernel, rfl, by decide +kernel, by decide +kernel⟩
abbrev s_Step_names : Stmt := inClass (top 10) 1
abbrev n_Step_names : List Str := ["self"]
theorem sc_Step_names : FnScope n_Step_names ["self"] (defScope s_Step_names) := ⟨rfl, rfl, rfl, by decide +kernel, rfl, by decide +kernel, by decide +kernel⟩
abbrev s_Step_is_inside : Stmt := inClass (top 10) 2
abbrev n_Step_is_inside : List Str := ["self"]
theorem sc_Step_is_inside : FnScope n_Step_is_inside ["self"] (defScope s_Step_is_inside) := ⟨rfl, rfl, rfl, by decide +kernel, rfl, by decide +kernel, by decide +kernel⟩
abbrev s_Step_at_place : Stmt := inClass (top 10) 3
abbrev n_Step_at_place : List Str := ["self", "place"]
theorem sc_Step_at_place : FnScope n_Step_at_place ["self", "place"] (defScope s_Step_at_place) := ⟨rfl, rfl, rfl, by decide +kernel, rfl, by decide +kernel, by decide +kernel⟩
abbrev s_Step_in_file : Stmt := inClass (top 10) 4
abbrev n_Step_in_file : List Str := ["self", "name"]
theorem sc_Step_in_file : FnScope n_Step_in_file ["self", "name"] (defScope s_Step_in_file) := ⟨rfl, rfl, rfl, by decide +kernel, rfl, by decide +kernel, by decide +kernel⟩
abbrev s_Step_with_tokens : Stmt := inClass (top 10) 5
abbrev n_Step_with_tokens : List Str := ["self", "old", "new"]
theorem sc_Step_with_tokens : FnScope n_Step_with_tokens ["self", "old", "new"] (defScope s_Step_with_tokens) := ⟨rfl, rfl, rfl, by decide +kernel, rfl, by decide +kernel, by decide +kernel⟩
abbrev s_Step_turned : Stmt := inClass (top 10) 6
abbrev n_Step_turned : List Str := ["self"]
theorem sc_Step_turned : FnScope n_Step_turned ["self"] (defScope s_Step_turned) := ⟨rfl, rfl, rfl, by decide +kernel, rfl, by decide +kernel, by decide +kernel⟩
abbrev s_Step_numbers : Stmt := inClass (top 10) 7
abbrev n_Step_numbers : List Str := ["self", "row"]
theorem sc_Step_numbers : FnScope n_Step_numbers ["self"] (defScope s_Step_numbers) := ⟨rfl, rfl, rfl, by decide +kernel, rfl, by decide +kernel, by decide +kernel⟩
abbrev s_turned_row : Stmt := top 11
abbrev n_turned_row : List Str := ["row", "step"]
theorem sc_turned_row : FnScope n_turned_row ["row"] (defScope s_turned_row) := ⟨rfl, rfl, rfl, by decide +kernel, rfl, by decide +kernel, by decide +kernel⟩
abbrev s_row_numbers : Stmt := top 12
abbrev n_row_numbers : List Str := ["row", "found", "step"]
theorem sc_row_numbers : FnScope n_row_numbers ["row"] (defScope s_row_numbers) := ⟨rfl, rfl, rfl, by decide +kernel, rfl, by decide +kernel, by decide +kernel⟩
abbrev s_is_name : Stmt := top 13
abbrev n_is_name : List Str := ["number"]
theorem sc_is_name : FnScope n_is_name ["number"] (defScope s_is_name) := ⟨rfl, rfl, rfl, by decide +kernel, rfl, by decide +kernel, by decide +kernel⟩
abbrev s_is_token : Stmt := top 14
abbrev n_is_token : List Str := ["number"]
theorem sc_is_token : FnScope n_is_token ["number"] (defScope s_is_token) := ⟨rfl, rfl, rfl, by decide +kernel, rfl, by decide +kernel, by decide +kernel⟩
abbrev s_are_tokens : Stmt := top 15
abbrev n_are_tokens : List Str := ["numbers", "number"]
theorem sc_are_tokens : FnScope n_are_tokens ["numbers"] (defScope s_are_tokens) := ⟨rfl, rfl, rfl, by decide +kernel, rfl, by decide +kernel, by decide +kernel⟩
abbrev s_counted_row : Stmt := top 16
abbrev n_counted_row : List Str := ["numbers", "at", "most", "found"]
theorem sc_counted_row : FnScope n_counted_row ["numbers", "at", "most"] (defScope s_counted_row) := ⟨rfl, rfl, rfl, by decide +kernel, rfl, by decide +kernel, by decide +kernel⟩
abbrev s_read_hunk : Stmt := top 17
abbrev n_read_hunk : List Str := ["numbers", "old", "new"]
theorem sc_read_hunk : FnScope n_read_hunk ["numbers"] (defScope s_read_hunk) := ⟨rfl, rfl, rfl, by decide +kernel, rfl, by decide +kernel, by decide +kernel⟩
abbrev s_read_swap : Stmt := top 18
abbrev n_read_swap : List Str := ["numbers"]
theorem sc_read_swap : FnScope n_read_swap ["numbers"] (defScope s_read_swap) := ⟨rfl, rfl, rfl, by decide +kernel, rfl, by decide +kernel, by decide +kernel⟩
abbrev s_read_moved : Stmt := top 19
abbrev n_read_moved : List Str := ["numbers"]
theorem sc_read_moved : FnScope n_read_moved ["numbers"] (defScope s_read_moved) := ⟨rfl, rfl, rfl, by decide +kernel, rfl, by decide +kernel, by decide +kernel⟩
abbrev s_read_step : Stmt := top 20
abbrev n_read_step : List Str := ["numbers"]
theorem sc_read_step : FnScope n_read_step ["numbers"] (defScope s_read_step) := ⟨rfl, rfl, rfl, by decide +kernel, rfl, by decide +kernel, by decide +kernel⟩
abbrev s_swapped : Stmt := top 24
abbrev n_swapped : List Str := ["tokens", "one", "other", "found", "token"]
theorem sc_swapped : FnScope n_swapped ["tokens", "one", "other"] (defScope s_swapped) := ⟨rfl, rfl, rfl, by decide +kernel, rfl, by decide +kernel, by decide +kernel⟩
abbrev s_Tree_init : Stmt := inClass (top 25) 0
abbrev n_Tree_init : List Str := ["self", "files"]
theorem sc_Tree_init : FnScope n_Tree_init ["self", "files"] (defScope s_Tree_init) := ⟨rfl, rfl, rfl, by decide +kernel, rfl, by decide +kernel, by decide +kernel⟩
abbrev s_Tree_has : Stmt := inClass (top 25) 1
abbrev n_Tree_has : List Str := ["self", "name"]
theorem sc_Tree_has : FnScope n_Tree_has ["self", "name"] (defScope s_Tree_has) := ⟨rfl, rfl, rfl, by decide +kernel, rfl, by decide +kernel, by decide +kernel⟩
abbrev s_Tree_tokens : Stmt := inClass (top 25) 2
abbrev n_Tree_tokens : List Str := ["self", "name"]
theorem sc_Tree_tokens : FnScope n_Tree_tokens ["self", "name"] (defScope s_Tree_tokens) := ⟨rfl, rfl, rfl, by decide +kernel, rfl, by decide +kernel, by decide +kernel⟩
abbrev s_Tree_fits_hunk : Stmt := inClass (top 25) 3
abbrev n_Tree_fits_hunk : List Str := ["self", "step", "row"]
theorem sc_Tree_fits_hunk : FnScope n_Tree_fits_hunk ["self", "step"] (defScope s_Tree_fits_hunk) := ⟨rfl, rfl, rfl, by decide +kernel, rfl, by decide +kernel, by decide +kernel⟩
abbrev s_Tree_fits : Stmt := inClass (top 25) 4
abbrev n_Tree_fits : List Str := ["self", "step"]
theorem sc_Tree_fits : FnScope n_Tree_fits ["self", "step"] (defScope s_Tree_fits) := ⟨rfl, rfl, rfl, by decide +kernel, rfl, by decide +kernel, by decide +kernel⟩
abbrev s_Tree_with_file : Stmt := inClass (top 25) 5
abbrev n_Tree_with_file : List Str := ["self", "name", "tokens", "found"]
theorem sc_Tree_with_file : FnScope n_Tree_with_file ["self", "name", "tokens"] (defScope s_Tree_with_file) := ⟨rfl, rfl, rfl, by decide +kernel, rfl, by decide +kernel, by decide +kernel⟩
abbrev s_Tree_without : Stmt := inClass (top 25) 6
abbrev n_Tree_without : List Str := ["self", "name", "other"]
theorem sc_Tree_without : FnScope n_Tree_without ["self", "name"] (defScope s_Tree_without) := ⟨rfl, rfl, rfl, by decide +kernel, rfl, by decide +kernel, by decide +kernel⟩
abbrev s_Tree_applied : Stmt := inClass (top 25) 7
abbrev n_Tree_applied : List Str := ["self", "step", "row"]
theorem sc_Tree_applied : FnScope n_Tree_applied ["self", "step"] (defScope s_Tree_applied) := ⟨rfl, rfl, rfl, by decide +kernel, rfl, by decide +kernel, by decide +kernel⟩
abbrev s_Tree_behind : Stmt := inClass (top 25) 8
abbrev n_Tree_behind : List Str := ["self", "row", "found", "step"]
theorem sc_Tree_behind : FnScope n_Tree_behind ["self", "row"] (defScope s_Tree_behind) := ⟨rfl, rfl, rfl, by decide +kernel, rfl, by decide +kernel, by decide +kernel⟩
abbrev s_Tree_numbers : Stmt := inClass (top 25) 9
abbrev n_Tree_numbers : List Str := ["self", "found", "name"]
theorem sc_Tree_numbers : FnScope n_Tree_numbers ["self"] (defScope s_Tree_numbers) := ⟨rfl, rfl, rfl, by decide +kernel, rfl, by decide +kernel, by decide +kernel⟩
abbrev s_read_tree : Stmt := top 26
abbrev n_read_tree : List Str := ["numbers", "files", "at", "last", "turn", "tokens"]
theorem sc_read_tree : FnScope n_read_tree ["numbers"] (defScope s_read_tree) := ⟨rfl, rfl, rfl, by decide +kernel, rfl, by decide +kernel, by decide +kernel⟩
abbrev s_have_name_in_common : Stmt := top 28
abbrev n_have_name_in_common : List Str := ["one", "other", "name"]
theorem sc_have_name_in_common : FnScope n_have_name_in_common ["one", "other"] (defScope s_have_name_in_common) := ⟨rfl, rfl, rfl, by decide +kernel, rfl, by decide +kernel, by decide +kernel⟩
abbrev s_hunks_commuted : Stmt := top 29
abbrev n_hunks_commuted : List Str := ["p", "q"]
theorem sc_hunks_commuted : FnScope n_hunks_commuted ["p", "q"] (defScope s_hunks_commuted) := ⟨rfl, rfl, rfl, by decide +kernel, rfl, by decide +kernel, by decide +kernel⟩
abbrev s_with_swapped : Stmt := top 30
abbrev n_with_swapped : List Str := ["hunk", "swap", "one", "other"]
theorem sc_with_swapped : FnScope n_with_swapped ["hunk", "swap"] (defScope s_with_swapped) := ⟨rfl, rfl, rfl, by decide +kernel, rfl, by decide +kernel, by decide +kernel⟩
abbrev s_swaps_commuted : Stmt := top 31
abbrev n_swaps_commuted : List Str := ["p", "q", "token"]
theorem sc_swaps_commuted : FnScope n_swaps_commuted ["p", "q"] (defScope s_swaps_commuted) := ⟨rfl, rfl, rfl, by decide +kernel, rfl, by decide +kernel, by decide +kernel⟩
abbrev s_inside_commuted : Stmt := top 32
abbrev n_inside_commuted : List Str := ["p", "q"]
theorem sc_inside_commuted : FnScope n_inside_commuted ["p", "q"] (defScope s_inside_commuted) := ⟨rfl, rfl, rfl, by decide +kernel, rfl, by decide +kernel, by decide +kernel⟩
abbrev s_commuted : Stmt := top 33
abbrev n_commuted : List Str := ["p", "q"]
theorem sc_commuted : FnScope n_commuted ["p", "q"] (defScope s_commuted) := ⟨rfl, rfl, rfl, by decide +kernel, rfl, by decide +kernel, by decide +kernel⟩
abbrev s_brought_ahead : Stmt := top 34
abbrev n_brought_ahead : List Str := ["row", "step", "found", "own", "pair"]
theorem sc_brought_ahead : FnScope n_brought_ahead ["row", "step"] (defScope s_brought_ahead) := ⟨rfl, rfl, rfl, by decide +kernel, rfl, by decide +kernel, by decide +kernel⟩
abbrev s_brought_behind : Stmt := top 35
abbrev n_brought_behind : List Str := ["step", "row", "found", "own", "pair"]
theorem sc_brought_behind : FnScope n_brought_behind ["step", "row"] (defScope s_brought_behind) := ⟨rfl, rfl, rfl, by decide +kernel, rfl, by decide +kernel, by decide +kernel⟩
abbrev s_row_brought_ahead : Stmt := top 36
abbrev n_row_brought_ahead : List Str := ["row", "other", "found", "step", "pair"]
theorem sc_row_brought_ahead : FnScope n_row_brought_ahead ["row", "other"] (defScope s_row_brought_ahead) := ⟨rfl, rfl, rfl, by decide +kernel, rfl, by decide +kernel, by decide +kernel⟩
abbrev s_merged : Stmt := top 37
abbrev n_merged : List Str := ["row", "other", "pair"]
theorem sc_merged : FnScope n_merged ["row", "other"] (defScope s_merged) := ⟨rfl, rfl, rfl, by decide +kernel, rfl, by decide +kernel, by decide +kernel⟩
abbrev s_Block_init : Stmt := inClass (top 39) 0
abbrev n_Block_init : List Str := ["self", "numbers", "row"]
theorem sc_Block_init : FnScope n_Block_init ["self", "numbers", "row"] (defScope s_Block_init) := ⟨rfl, rfl, rfl, by decide +kernel, rfl, by decide +kernel, by decide +kernel⟩
abbrev s_block_of : Stmt := top 40
abbrev n_block_of : List Str := ["row", "number", "numbers", "found", "at", "pair"]
theorem sc_block_of : FnScope n_block_of ["row", "number"] (defScope s_block_of) := ⟨rfl, rfl, rfl, by decide +kernel, rfl, by decide +kernel, by decide +kernel⟩
abbrev s_all_blocks : Stmt := top 41
abbrev n_all_blocks : List Str := ["row", "number"]
theorem sc_all_blocks : FnScope n_all_blocks ["row"] (defScope s_all_blocks) := ⟨rfl, rfl, rfl, by decide +kernel, rfl, by decide +kernel, by decide +kernel⟩
abbrev s_conflicting : Stmt := top 42
abbrev n_conflicting : List Str := ["row", "other", "found", "blocks", "i", "one", "j", "block"]
theorem sc_conflicting : FnScope n_conflicting ["row", "other"] (defScope s_conflicting) := ⟨rfl, rfl, rfl, by decide +kernel, rfl, by decide +kernel, by decide +kernel⟩
abbrev s_first_conflicts : Stmt := top 43
abbrev n_first_conflicts : List Str := ["row", "other", "pairs", "blocks", "others", "found", "i", "j", "within", "pair"]
theorem sc_first_conflicts : FnScope n_first_conflicts ["row", "other"] (defScope s_first_conflicts) := ⟨rfl, rfl, rfl, by decide +kernel, rfl, by decide +kernel, by decide +kernel⟩
abbrev s_taken_out : Stmt := top 44
abbrev n_taken_out : List Str := ["row", "number", "pair"]
theorem sc_taken_out : FnScope n_taken_out ["row", "number"] (defScope s_taken_out) := ⟨rfl, rfl, rfl, by decide +kernel, rfl, by decide +kernel, by decide +kernel⟩
abbrev s_what_is_left : Stmt := top 45
abbrev n_what_is_left : List Str := ["row", "numbers", "found", "number"]
theorem sc_what_is_left : FnScope n_what_is_left ["row", "numbers"] (defScope s_what_is_left) := ⟨rfl, rfl, rfl, by decide +kernel, rfl, by decide +kernel, by decide +kernel⟩
abbrev s_House_init : Stmt := inClass (top 57) 0
abbrev n_House_init : List Str := ["self"]
theorem sc_House_init : FnScope n_House_init ["self"] (defScope s_House_init) := ⟨rfl, rfl, rfl, by decide +kernel, rfl, by decide +kernel, by decide +kernel⟩
abbrev s_House_set_tree : Stmt := inClass (top 57) 1
abbrev n_House_set_tree : List Str := ["self", "numbers", "found"]
theorem sc_House_set_tree : FnScope n_House_set_tree ["self", "numbers"] (defScope s_House_set_tree) := ⟨rfl, rfl, rfl, by decide +kernel, rfl, by decide +kernel, by decide +kernel⟩
abbrev s_House_row_fault : Stmt := inClass (top 57) 2
abbrev n_House_row_fault : List Str := ["self", "row"]
theorem sc_House_row_fault : FnScope n_House_row_fault ["self", "row"] (defScope s_House_row_fault) := ⟨rfl, rfl, rfl, by decide +kernel, rfl, by decide +kernel, by decide +kernel⟩
abbrev s_House_pair_fault : Stmt := inClass (top 57) 3
abbrev n_House_pair_fault : List Str := ["self", "row", "other", "found"]
theorem sc_House_pair_fault : FnScope n_House_pair_fault ["self", "row", "other"] (defScope s_House_pair_fault) := ⟨rfl, rfl, rfl, by decide +kernel, rfl, by decide +kernel, by decide +kernel⟩
abbrev s_House_put_row : Stmt := inClass (top 57) 4
abbrev n_House_put_row : List Str := ["self", "number", "row"]
theorem sc_House_put_row : FnScope n_House_put_row ["self", "number", "row"] (defScope s_House_put_row) := ⟨rfl, rfl, rfl, by decide +kernel, rfl, by decide +kernel, by decide +kernel⟩
abbrev s_House_add_step : Stmt := inClass (top 57) 5
abbrev n_House_add_step : List Str := ["self", "number", "numbers", "refusal", "found", "row"]
theorem sc_House_add_step : FnScope n_House_add_step ["self", "number", "numbers"] (defScope s_House_add_step) := ⟨rfl, rfl, rfl, by decide +kernel, rfl, by decide +kernel, by decide +kernel⟩
abbrev s_House_shown : Stmt := inClass (top 57) 6
abbrev n_House_shown : List Str := ["self", "number", "refusal"]
theorem sc_House_shown : FnScope n_House_shown ["self", "number"] (defScope s_House_shown) := ⟨rfl, rfl, rfl, by decide +kernel, rfl, by decide +kernel, by decide +kernel⟩
abbrev s_House_outcome : Stmt := inClass (top 57) 7
abbrev n_House_outcome : List Str := ["self", "number", "refusal"]
theorem sc_House_outcome : FnScope n_House_outcome ["self", "number"] (defScope s_House_outcome) := ⟨rfl, rfl, rfl, by decide +kernel, rfl, by decide +kernel, by decide +kernel⟩
abbrev s_House_merge : Stmt := inClass (top 57) 8
abbrev n_House_merge : List Str := ["self", "one", "other", "refusal", "pair"]
theorem sc_House_merge : FnScope n_House_merge ["self", "one", "other"] (defScope s_House_merge) := ⟨rfl, rfl, rfl, by decide +kernel, rfl, by decide +kernel, by decide +kernel⟩
abbrev s_House_sides : Stmt := inClass (top 57) 9
abbrev n_House_sides : List Str := ["self", "one", "other", "refusal", "pair"]
theorem sc_House_sides : FnScope n_House_sides ["self", "one", "other"] (defScope s_House_sides) := ⟨rfl, rfl, rfl, by decide +kernel, rfl, by decide +kernel, by decide +kernel⟩
abbrev s_House_held_fault : Stmt := inClass (top 57) 10
abbrev n_House_held_fault : List Str := ["self", "one", "other", "found"]
theorem sc_House_held_fault : FnScope n_House_held_fault ["self", "one", "other"] (defScope s_House_held_fault) := ⟨rfl, rfl, rfl, by decide +kernel, rfl, by decide +kernel, by decide +kernel⟩
abbrev s_House_conflicts : Stmt := inClass (top 57) 11
abbrev n_House_conflicts : List Str := ["self", "one", "other", "refusal", "pairs", "found", "i", "j"]
theorem sc_House_conflicts : FnScope n_House_conflicts ["self", "one", "other"] (defScope s_House_conflicts) := ⟨rfl, rfl, rfl, by decide +kernel, rfl, by decide +kernel, by decide +kernel⟩
abbrev s_House_clean : Stmt := inClass (top 57) 12
abbrev n_House_clean : List Str := ["self", "one", "other", "refusal", "pairs", "first", "second", "left", "pair", "tree", "i", "j"]
theorem sc_House_clean : FnScope n_House_clean ["self", "one", "other"] (defScope s_House_clean) := ⟨rfl, rfl, rfl, by decide +kernel, rfl, by decide +kernel, by decide +kernel⟩
abbrev s_House_are_rows : Stmt := inClass (top 57) 13
abbrev n_House_are_rows : List Str := ["self", "numbers", "at", "number"]
theorem sc_House_are_rows : FnScope n_House_are_rows ["self", "numbers"] (defScope s_House_are_rows) := ⟨rfl, rfl, rfl, by decide +kernel, rfl, by decide +kernel, by decide +kernel⟩
abbrev s_House_all_merged : Stmt := inClass (top 57) 14
abbrev n_House_all_merged : List Str := ["self", "numbers", "found", "at", "number", "pair"]
theorem sc_House_all_merged : FnScope n_House_all_merged ["self", "numbers"] (defScope s_House_all_merged) := ⟨rfl, rfl, rfl, by decide +kernel, rfl, by decide +kernel, by decide +kernel⟩
abbrev s_House_pull : Stmt := inClass (top 57) 15
abbrev n_House_pull : List Str := ["self", "one", "other", "refusal", "pair"]
theorem sc_House_pull : FnScope n_House_pull ["self", "one", "other"] (defScope s_House_pull) := ⟨rfl, rfl, rfl, by decide +kernel, rfl, by decide +kernel, by decide +kernel⟩
abbrev s_House_drop : Stmt := inClass (top 57) 16
abbrev n_House_drop : List Str := ["self", "number", "refusal"]
theorem sc_House_drop : FnScope n_House_drop ["self", "number"] (defScope s_House_drop) := ⟨rfl, rfl, rfl, by decide +kernel, rfl, by decide +kernel, by decide +kernel⟩
abbrev s_House_two : Stmt := inClass (top 57) 17
abbrev n_House_two : List Str := ["self", "one", "other", "first", "second", "pair"]
theorem sc_House_two : FnScope n_House_two ["self", "one", "other"] (defScope s_House_two) := ⟨rfl, rfl, rfl, by decide +kernel, rfl, by decide +kernel, by decide +kernel⟩
abbrev s_told_of_row : Stmt := top 61
abbrev n_told_of_row : List Str := ["house", "kind", "n", "rows"]
theorem sc_told_of_row : FnScope n_told_of_row ["house", "kind", "n", "rows"] (defScope s_told_of_row) := ⟨rfl, rfl, rfl, by decide +kernel, rfl, by decide +kernel, by decide +kernel⟩
abbrev s_told_of_two : Stmt := top 62
abbrev n_told_of_two : List Str := ["house", "kind", "n"]
theorem sc_told_of_two : FnScope n_told_of_two ["house", "kind", "n"] (defScope s_told_of_two) := ⟨rfl, rfl, rfl, by decide +kernel, rfl, by decide +kernel, by decide +kernel⟩
abbrev s_answers : Stmt := top 63
abbrev n_answers : List Str := ["calls", "house", "found", "at", "kind", "end", "numbers", "rows", "k", "told"]
theorem sc_answers : FnScope n_answers ["calls"] (defScope s_answers) := ⟨rfl, rfl, rfl, by decide +kernel, rfl, by decide +kernel, by decide +kernel⟩
/-- a def of the module -/
structure Df (K : PySem.W.Frag) (mg : Str → Option Value) (x : Str) (st : Stmt) (ps : List Str) where
  f : Addr
  fd : FuncData
  F : Fun K x x st f fd
  b : Binds K fd ps []
  g : mg x = some (.ref f)
/-- a method -/
structure Dm (K : PySem.W.Frag) (C : Addr) (x qual : Str) (st : Stmt) (ps : List Str) where
  f : Addr
  fd : FuncData
  F : Fun K x qual st f fd
  b : Binds K fd ps []
  m : Meth K C x f
/-- a number of the module -/
structure Cn (mg : Str → Option Value) (x : Str) (i : Int) where
  t : Tok
  h : mg x = some (.int i t)
/-- a tuple of numbers of the module -/
structure Ct (K : PySem.W.Frag) (mg : Str → Option Value) (x : Str) (ns : List Int) where
  a : Addr
  h : mg x = some (.ref a)
  s : ∀ H : Hp, SqT K H a (ns.map V.int)
structure Txt (K : PySem.W.Frag) (mg : Str → Option Value) where
  C_Step : Addr
  cl_Step : Cls K C_Step
  g_Step : mg "Step" = some (.ref C_Step)
  na_Step_kind : NoAttr K C_Step "kind"
  na_Step_name : NoAttr K C_Step "name"
  na_Step_place : NoAttr K C_Step "place"
  na_Step_old : NoAttr K C_Step "old"
  na_Step_new : NoAttr K C_Step "new"
  na_Step_goal : NoAttr K C_Step "goal"
  C_Tree : Addr
  cl_Tree : Cls K C_Tree
  g_Tree : mg "Tree" = some (.ref C_Tree)
  na_Tree_files : NoAttr K C_Tree "files"
  C_Block : Addr
  cl_Block : Cls K C_Block
  g_Block : mg "Block" = some (.ref C_Block)
  na_Block_among : NoAttr K C_Block "among"
  na_Block_row : NoAttr K C_Block "row"
  C_House : Addr
  cl_House : Cls K C_House
  g_House : mg "House" = some (.ref C_House)
  na_House_base : NoAttr K C_House "base"
  na_House_rows : NoAttr K C_House "rows"
  m_Step_init : Dm K C_Step "__init__" "Step.__init__" s_Step_init ["self", "kind", "name", "place", "old", "new", "goal"]
  m_Step_names : Dm K C_Step "names" "Step.names" s_Step_names ["self"]
  m_Step_is_inside : Dm K C_Step "is_inside" "Step.is_inside" s_Step_is_inside ["self"]
  m_Step_at_place : Dm K C_Step "at_place" "Step.at_place" s_Step_at_place ["self", "place"]
  m_Step_in_file : Dm K C_Step "in_file" "Step.in_file" s_Step_in_file ["self", "name"]
  m_Step_with_tokens : Dm K C_Step "with_tokens" "Step.with_tokens" s_Step_with_tokens ["self", "old", "new"]
  m_Step_turned : Dm K C_Step "turned" "Step.turned" s_Step_turned ["self"]
  m_Step_numbers : Dm K C_Step "numbers" "Step.numbers" s_Step_numbers ["self"]
  d_turned_row : Df K mg "turned_row" s_turned_row ["row"]
  d_row_numbers : Df K mg "row_numbers" s_row_numbers ["row"]
  d_is_name : Df K mg "is_name" s_is_name ["number"]
  d_is_token : Df K mg "is_token" s_is_token ["number"]
  d_are_tokens : Df K mg "are_tokens" s_are_tokens ["numbers"]
  d_counted_row : Df K mg "counted_row" s_counted_row ["numbers", "at", "most"]
  d_read_hunk : Df K mg "read_hunk" s_read_hunk ["numbers"]
  d_read_swap : Df K mg "read_swap" s_read_swap ["numbers"]
  d_read_moved : Df K mg "read_moved" s_read_moved ["numbers"]
  d_read_step : Df K mg "read_step" s_read_step ["numbers"]
  d_swapped : Df K mg "swapped" s_swapped ["tokens", "one", "other"]
  m_Tree_init : Dm K C_Tree "__init__" "Tree.__init__" s_Tree_init ["self", "files"]
  m_Tree_has : Dm K C_Tree "has" "Tree.has" s_Tree_has ["self", "name"]
  m_Tree_tokens : Dm K C_Tree "tokens" "Tree.tokens" s_Tree_tokens ["self", "name"]
  m_Tree_fits_hunk : Dm K C_Tree "fits_hunk" "Tree.fits_hunk" s_Tree_fits_hunk ["self", "step"]
  m_Tree_fits : Dm K C_Tree "fits" "Tree.fits" s_Tree_fits ["self", "step"]
  m_Tree_with_file : Dm K C_Tree "with_file" "Tree.with_file" s_Tree_with_file ["self", "name", "tokens"]
  m_Tree_without : Dm K C_Tree "without" "Tree.without" s_Tree_without ["self", "name"]
  m_Tree_applied : Dm K C_Tree "applied" "Tree.applied" s_Tree_applied ["self", "step"]
  m_Tree_behind : Dm K C_Tree "behind" "Tree.behind" s_Tree_behind ["self", "row"]
  m_Tree_numbers : Dm K C_Tree "numbers" "Tree.numbers" s_Tree_numbers ["self"]
  d_read_tree : Df K mg "read_tree" s_read_tree ["numbers"]
  d_have_name_in_common : Df K mg "have_name_in_common" s_have_name_in_common ["one", "other"]
  d_hunks_commuted : Df K mg "hunks_commuted" s_hunks_commuted ["p", "q"]
  d_with_swapped : Df K mg "with_swapped" s_with_swapped ["hunk", "swap"]
  d_swaps_commuted : Df K mg "swaps_commuted" s_swaps_commuted ["p", "q"]
  d_inside_commuted : Df K mg "inside_commuted" s_inside_commuted ["p", "q"]
  d_commuted : Df K mg "commuted" s_commuted ["p", "q"]
  d_brought_ahead : Df K mg "brought_ahead" s_brought_ahead ["row", "step"]
  d_brought_behind : Df K mg "brought_behind" s_brought_behind ["step", "row"]
  d_row_brought_ahead : Df K mg "row_brought_ahead" s_row_brought_ahead ["row", "other"]
  d_merged : Df K mg "merged" s_merged ["row", "other"]
  m_Block_init : Dm K C_Block "__init__" "Block.__init__" s_Block_init ["self", "numbers", "row"]
  d_block_of : Df K mg "block_of" s_block_of ["row", "number"]
  d_all_blocks : Df K mg "all_blocks" s_all_blocks ["row"]
  d_conflicting : Df K mg "conflicting" s_conflicting ["row", "other"]
  d_first_conflicts : Df K mg "first_conflicts" s_first_conflicts ["row", "other"]
  d_taken_out : Df K mg "taken_out" s_taken_out ["row", "number"]
  d_what_is_left : Df K mg "what_is_left" s_what_is_left ["row", "numbers"]
  m_House_init : Dm K C_House "__init__" "House.__init__" s_House_init ["self"]
  m_House_set_tree : Dm K C_House "set_tree" "House.set_tree" s_House_set_tree ["self", "numbers"]
  m_House_row_fault : Dm K C_House "row_fault" "House.row_fault" s_House_row_fault ["self", "row"]
  m_House_pair_fault : Dm K C_House "pair_fault" "House.pair_fault" s_House_pair_fault ["self", "row", "other"]
  m_House_put_row : Dm K C_House "put_row" "House.put_row" s_House_put_row ["self", "number", "row"]
  m_House_add_step : Dm K C_House "add_step" "House.add_step" s_House_add_step ["self", "number", "numbers"]
  m_House_shown : Dm K C_House "shown" "House.shown" s_House_shown ["self", "number"]
  m_House_outcome : Dm K C_House "outcome" "House.outcome" s_House_outcome ["self", "number"]
  m_House_merge : Dm K C_House "merge" "House.merge" s_House_merge ["self", "one", "other"]
  m_House_sides : Dm K C_House "sides" "House.sides" s_House_sides ["self", "one", "other"]
  m_House_held_fault : Dm K C_House "held_fault" "House.held_fault" s_House_held_fault ["self", "one", "other"]
  m_House_conflicts : Dm K C_House "conflicts" "House.conflicts" s_House_conflicts ["self", "one", "other"]
  m_House_clean : Dm K C_House "clean" "House.clean" s_House_clean ["self", "one", "other"]
  m_House_are_rows : Dm K C_House "are_rows" "House.are_rows" s_House_are_rows ["self", "numbers"]
  m_House_all_merged : Dm K C_House "all_merged" "House.all_merged" s_House_all_merged ["self", "numbers"]
  m_House_pull : Dm K C_House "pull" "House.pull" s_House_pull ["self", "one", "other"]
  m_House_drop : Dm K C_House "drop" "House.drop" s_House_drop ["self", "number"]
  m_House_two : Dm K C_House "two" "House.two" s_House_two ["self", "one", "other"]
  d_told_of_row : Df K mg "told_of_row" s_told_of_row ["house", "kind", "n", "rows"]
  d_told_of_two : Df K mg "told_of_two" s_told_of_two ["house", "kind", "n"]
  d_answers : Df K mg "answers" s_answers ["calls"]
  mk_Step : Mk K C_Step m_Step_init.f
  mk_Tree : Mk K C_Tree m_Tree_init.f
  mk_Block : Mk K C_Block m_Block_init.f
  mk_House : Mk K C_House m_House_init.f
  c_HUNK : Cn mg "HUNK" 0
  c_SWAP : Cn mg "SWAP" 1
  c_ADDED : Cn mg "ADDED" 2
  c_REMOVED : Cn mg "REMOVED" 3
  c_MOVED : Cn mg "MOVED" 4
  c_MOST_NAME : Cn mg "MOST_NAME" 9
  c_MOST_TOKEN : Cn mg "MOST_TOKEN" 99
  c_MOST_PLACE : Cn mg "MOST_PLACE" 1000
  c_MOST_TOKENS : Cn mg "MOST_TOKENS" 8
  c_MOST_FILES : Cn mg "MOST_FILES" 6
  c_MOST_IN_FILE : Cn mg "MOST_IN_FILE" 12
  c_NO_FORM : Cn mg "NO_FORM" (-1)
  c_NO_ROW : Cn mg "NO_ROW" (-2)
  c_SAME_ROW : Cn mg "SAME_ROW" (-3)
  c_DOESNT_FIT : Cn mg "DOESNT_FIT" (-4)
  c_TOO_MANY : Cn mg "TOO_MANY" (-6)
  c_CANT_BE : Cn mg "CANT_BE" (-7)
  c_NO_TREE : Cn mg "NO_TREE" (-8)
  c_ROWS_house : Cn mg "ROWS_house" 4
  c_MOST_STEPS : Cn mg "MOST_STEPS" 8
  c_MOST_PULLED : Cn mg "MOST_PULLED" 24
  c_NUMBERS : Ct K mg "NUMBERS" [0, 1, 1, 1, 2, 2, 2, 2, 0, 2, 1, 0]
  c_ROWS_merging : Ct K mg "ROWS_merging" [1, 1, 0, 0, 0, 0, 0, 0, 1, 0, 0, 2]
  b_len : mg "len" = none
  b_list : mg "list" = none
  b_tuple : mg "tuple" = none
  b_reversed : mg "reversed" = none
  b_range : mg "range" = none
  b_sorted : mg "sorted" = none
  b_dict : mg "dict" = none
  b_set : mg "set" = none
  b_enumerate : mg "enumerate" = none
  b_max : mg "max" = none
/-- a walk that is one of two -/
theorem pi_or {X : Cx} {tg it : Expr} {w1 w2 : TI} (h1 : PI X tg it w1) (h2 : PI X tg it w2) : PI X tg it (fun σ H R => w1 σ H R ∨ w2 σ H R) :=
  ⟨fun pins s σ H R I h => h.elim (h1.run pins s σ H R I) (h2.run pins s σ H R I)⟩
end Rw

/-! part RwData -/
set_option Elab.async false
set_option linter.all false
set_option maxRecDepth 100000
set_option maxHeartbeats 4000000
/-! The data: how steps, rows, trees lie in the heap. -/
namespace Rw
open PySem PySem.Spec PyProof.Rows L2
open VapatBase (Tokens)
abbrev St' := VapatBase.Step
/-! ### lists side by side -/
inductive Two {α β : Type} (R : α → β → Prop) : List α → List β → Prop where
  | nil : Two R [] []
  | cons {a : α} {b : β} {l : List α} {m : List β} : R a b → Two R l m → Two R (a :: l) (b :: m)
section
variable {α β : Type} {R S : α → β → Prop}
theorem Two.len {l : List α} {m : List β} (h : Two R l m) : l.length = m.length := by
  induction h with
  | nil => rfl
  | cons _ _ ih => simp [ih]
theorem Two.imp {l : List α} {m : List β} (h : Two R l m) (k : ∀ a b, R a b → S a b) : Two S l m := by
  induction h with
  | nil => exact .nil
  | cons r _ ih => exact .cons (k _ _ r) ih
theorem Two.app {l l' : List α} {m m' : List β} (h : Two R l m) (k : Two R l' m') : Two R (l ++ l') (m ++ m') := by
  induction h with
  | nil => exact k
  | cons r _ ih => exact .cons r ih
theorem Two.one {a : α} {b : β} (h : R a b) : Two R [a] [b] := .cons h .nil
theorem Two.get {l : List α} {m : List β} (h : Two R l m) : ∀ {i : Nat} {a : α}, l[i]? = some a → ∃ b, m[i]? = some b ∧ R a b := by
  induction h with
  | nil => intro i a e; simp at e
  | cons r _ ih =>
    intro i a e
    cases i with
    | zero =>
      simp at e
      subst e
      exact ⟨_, rfl, r⟩
    | succ i =>
      simp at e
      obtain ⟨b, e2, q⟩ := ih e
      exact ⟨b, by simpa using e2, q⟩
theorem Two.get' {l : List α} {m : List β} (h : Two R l m) : ∀ {i : Nat} {b : β}, m[i]? = some b → ∃ a, l[i]? = some a ∧ R a b := by
  induction h with
  | nil => intro i a e; simp at e
  | cons r _ ih =>
    intro i a e
    cases i with
    | zero =>
      simp at e
      subst e
      exact ⟨_, rfl, r⟩
    | succ i =>
      simp at e
      obtain ⟨b, e2, q⟩ := ih e
      exact ⟨b, by simpa using e2, q⟩
theorem Two.take {l : List α} {m : List β} (h : Two R l m) : ∀ (i : Nat), Two R (l.take i) (m.take i) := by
  induction h with
  | nil => intro i; simp; exact .nil
  | cons r _ ih =>
    intro i
    cases i with
    | zero => exact .nil
    | succ i => exact .cons r (ih i)
theorem Two.drop {l : List α} {m : List β} (h : Two R l m) : ∀ (i : Nat), Two R (l.drop i) (m.drop i) := by
  induction h with
  | nil => intro i; simp; exact .nil
  | cons r k ih =>
    intro i
    cases i with
    | zero => exact .cons r k
    | succ i => exact ih i
theorem Two.rev {l : List α} {m : List β} (h : Two R l m) : Two R l.reverse m.reverse := by
  induction h with
  | nil => exact .nil
  | cons r _ ih =>
    rw [List.reverse_cons, List.reverse_cons]
    exact ih.app (.one r)
end
/-! ### heaps -/
/-- all but what stands at q is as it was -/
def Off (q : Addr) (H H' : Hp) : Prop := ∀ b o, b ≠ q → H b = some o → H' b = some o
theorem Off.upd {H : Hp} {q : Addr} {o : HO} : Off q H (upd H q o) := fun b o' hb e => by rw [upd_ne hb]; exact e
theorem Same.off {H H' : Hp} (q : Addr) (h : Same H H') : Off q H H' := fun b o _ e => h b o e
theorem Off.trans {q : Addr} {H H1 H2 : Hp} (a : Off q H H1) (b : Off q H1 H2) : Off q H H2 := fun c o n e => b c o n (a c o n e)
theorem Off.same {q : Addr} {H H' : Hp} (h : Off q H H') (n : H q = none) : Same H H' := fun b o e => h b o (fun z => by rw [z, n] at e; cases e) e
theorem same_upd {H : Hp} {p : Addr} {o : HO} (n : H p = none) : Same H (upd H p o) := Off.upd.same n
theorem same_off {q : Addr} {H0 H H' : Hp} (h : Same H0 H) (n : H0 q = none) (k : Off q H H') : Same H0 H' := fun b o e => k b o (fun z => by rw [z, n] at e; cases e) (h b o e)
theorem Same.at {H H' : Hp} {a : Addr} {o : HO} (h : Same H H') (e : H a = some o) : H' a = some o := h a o e
theorem Same.made' {H H1 : Hp} {x dx C : Addr} (nx : H x = none) (nd : H dx = none) (k : Off x (upd (upd H dx (.own x)) x (.ins C dx [])) H1) : Same H H1 :=
  Same.made nx nd fun b o e n => k b o n e
section
variable {K : PySem.W.Frag}
theorem sqT_same {H H' : Hp} {a : Addr} {xs : List V} (e : Same H H') (h : SqT K H a xs) : SqT K H' a xs := by
  rcases h with (h | ⟨o, h⟩) | h
  · exact .inl (.inl (e _ _ h))
  · exact .inl (.inr ⟨o, e _ _ h⟩)
  · exact .inr h
/-- q holds a list, a dict: no tuple, no instance -/
def Soft (H : Hp) (q : Addr) : Prop := (∃ xs, H q = some (.lst xs)) ∨ (∃ kvs, H q = some (.dK kvs))
theorem sqT_off {q : Addr} {H H' : Hp} {a : Addr} {xs : List V} (n : Soft H q) (e : Off q H H') (h : SqT K H a xs) : SqT K H' a xs := by
  rcases h with (h | ⟨o, h⟩) | h
  · exact .inl (.inl (e _ _ (fun z => by subst z; rcases n with ⟨_, n⟩ | ⟨_, n⟩ <;> (rw [h] at n; cases n)) h))
  · exact .inl (.inr ⟨o, e _ _ (fun z => by subst z; rcases n with ⟨_, n⟩ | ⟨_, n⟩ <;> (rw [h] at n; cases n)) h⟩)
  · exact .inr h
end
/-! ### steps -/
abbrev vN (n : Nat) : V := .int (n : Int)
def tok (l : List Nat) : List V := l.map vN
theorem tok_len (l : List Nat) : (tok l).length = l.length := List.length_map ..
theorem tok_ints (l : List Nat) : tok l = (l.map Int.ofNat).map V.int := by
  unfold tok
  rw [List.map_map]
  rfl
def kN : St' → Int
  | .hunk _ _ _ _ => 0
  | .swap _ _ _ => 1
  | .add _ => 2
  | .remove _ => 3
  | .move _ _ => 4
def nmN : St' → Nat
  | .hunk f _ _ _ => f
  | .swap f _ _ => f
  | .add f => f
  | .remove f => f
  | .move f _ => f
def plN : St' → Nat
  | .hunk _ a _ _ => a
  | _ => 0
def olN : St' → List Nat
  | .hunk _ _ o _ => o
  | .swap _ x _ => [x]
  | _ => []
def nwN : St' → List Nat
  | .hunk _ _ _ n => n
  | .swap _ _ y => [y]
  | _ => []
def glN : St' → Nat
  | .move _ g => g
  | _ => 0
def fS (k n p : Int) (o w : Addr) (g : Int) : List (Str × V) := [("kind", .int k), ("name", .int n), ("place", .int p), ("old", .ref o), ("new", .ref w), ("goal", .int g)]
theorem lk_here {k : Str} {v : V} {r : List (Str × V)} : List.lookup k ((k, v) :: r) = some v := by
  have e : (k == k) = true := beq_self_eq_true k
  simp only [List.lookup, e]
theorem lk_past {k g : Str} {v : V} {r : List (Str × V)} (h : (k == g) = false) : List.lookup k ((g, v) :: r) = List.lookup k r := by
  simp only [List.lookup, h]
theorem lk_nil {k : Str} : List.lookup k ([] : List (Str × V)) = none := rfl
theorem put_here {f : Str} {v x : V} {r : List (Str × V)} : putF f v ((f, x) :: r) = (f, v) :: r := if_pos rfl
theorem put_past {f g : Str} {v x : V} {r : List (Str × V)} (h : ¬ g = f) : putF f v ((g, x) :: r) = (g, x) :: putF f v r := if_neg h
section
variable {k n p : Int} {o w : Addr} {g : Int}
theorem fS_kind : (fS k n p o w g).lookup ("kind" : Str) = some (.int k) := lk_here
theorem fS_name : (fS k n p o w g).lookup ("name" : Str) = some (.int n) := (lk_past (by decide +kernel)).trans lk_here
theorem fS_place : (fS k n p o w g).lookup ("place" : Str) = some (.int p) := (lk_past (by decide +kernel)).trans ((lk_past (by decide +kernel)).trans lk_here)
theorem fS_old : (fS k n p o w g).lookup ("old" : Str) = some (.ref o) := (lk_past (by decide +kernel)).trans ((lk_past (by decide +kernel)).trans ((lk_past (by decide +kernel)).trans lk_here))
theorem fS_new : (fS k n p o w g).lookup ("new" : Str) = some (.ref w) := (lk_past (by decide +kernel)).trans ((lk_past (by decide +kernel)).trans ((lk_past (by decide +kernel)).trans ((lk_past (by decide +kernel)).trans lk_here)))
theorem fS_goal : (fS k n p o w g).lookup ("goal" : Str) = some (.int g) := (lk_past (by decide +kernel)).trans ((lk_past (by decide +kernel)).trans ((lk_past (by decide +kernel)).trans ((lk_past (by decide +kernel)).trans ((lk_past (by decide +kernel)).trans lk_here))))
/-- a name that is none of a step's attributes -/
def noS (m : Str) : Bool := !(m == ("kind" : Str)) && (!(m == ("name" : Str)) && (!(m == ("place" : Str)) && (!(m == ("old" : Str)) && (!(m == ("new" : Str)) && !(m == ("goal" : Str))))))
theorem fS_no {m : Str} (h : noS m = true) : (fS k n p o w g).lookup m = none := by
  simp only [noS, Bool.and_eq_true, Bool.not_eq_true'] at h
  obtain ⟨h1, h2, h3, h4, h5, h6⟩ := h
  exact (lk_past h1).trans ((lk_past h2).trans ((lk_past h3).trans ((lk_past h4).trans ((lk_past h5).trans ((lk_past h6).trans lk_nil)))))
end
section
variable {K : PySem.W.Frag}
/-- a step stands at a -/
structure StepIn (K : PySem.W.Frag) (C : Addr) (H : Hp) (a : Addr) (s : St') (dx o w : Addr) : Prop where
  ins : H a = some (.ins C dx (fS (kN s) (nmN s) (plN s) o w (glN s)))
  old : SqT K H o (tok (olN s))
  new : SqT K H w (tok (nwN s))
def StepAt (K : PySem.W.Frag) (C : Addr) (H : Hp) (a : Addr) (s : St') : Prop := ∃ dx o w, StepIn K C H a s dx o w
theorem StepAt.same {C : Addr} {H H' : Hp} {a : Addr} {s : St'} (h : StepAt K C H a s) (e : Same H H') : StepAt K C H' a s := by
  obtain ⟨dx, o, w, h1, h2, h3⟩ := h
  exact ⟨dx, o, w, e _ _ h1, sqT_same e h2, sqT_same e h3⟩
theorem StepAt.off {C q : Addr} {H H' : Hp} {a : Addr} {s : St'} (h : StepAt K C H a s) (n : Soft H q) (e : Off q H H') : StepAt K C H' a s := by
  obtain ⟨dx, o, w, h1, h2, h3⟩ := h
  exact ⟨dx, o, w, e _ _ (fun z => by subst z; rcases n with ⟨_, n⟩ | ⟨_, n⟩ <;> (rw [h1] at n; cases n)) h1, sqT_off n e h2, sqT_off n e h3⟩
theorem StepIn.same {C : Addr} {H H' : Hp} {a dx o w : Addr} {s : St'} (h : StepIn K C H a s dx o w) (e : Same H H') : StepIn K C H' a s dx o w := ⟨e _ _ h.ins, sqT_same e h.old, sqT_same e h.new⟩
abbrev StepsAt (K : PySem.W.Frag) (C : Addr) (H : Hp) : List Addr → List St' → Prop := Two fun a s => StepAt K C H a s
theorem steps_same {C : Addr} {H H' : Hp} {as : List Addr} {ss : List St'} (h : StepsAt K C H as ss) (e : Same H H') : StepsAt K C H' as ss := Two.imp h fun _ _ q => q.same e
theorem steps_off {C q : Addr} {H H' : Hp} {as : List Addr} {ss : List St'} (h : StepsAt K C H as ss) (n : Soft H q) (e : Off q H H') : StepsAt K C H' as ss := Two.imp h fun _ _ s => s.off n e
/-- a row stands at a -/
def RowAt (K : PySem.W.Frag) (C : Addr) (H : Hp) (a : Addr) (ss : List St') : Prop := ∃ as, H a = some (.lst (as.map V.ref)) ∧ StepsAt K C H as ss
theorem RowAt.same {C : Addr} {H H' : Hp} {a : Addr} {ss : List St'} (h : RowAt K C H a ss) (e : Same H H') : RowAt K C H' a ss := by
  obtain ⟨as, h1, h2⟩ := h
  exact ⟨as, e _ _ h1, steps_same h2 e⟩
theorem RowAt.off {C q : Addr} {H H' : Hp} {a : Addr} {ss : List St'} (h : RowAt K C H a ss) (n : Soft H q) (ne : a ≠ q) (e : Off q H H') : RowAt K C H' a ss := by
  obtain ⟨as, h1, h2⟩ := h
  exact ⟨as, e _ _ ne h1, steps_off h2 n e⟩
end
/-! ### promises -/
/-- a new object: the heap by a letter -/
@[elab_as_elim]
theorem alloc {H : Hp} {p : Addr} {o : HO} {M : Hp → Prop} (n : H p = none) (h : ∀ H1, Same H H1 → H1 p = some o → M H1) : M (upd H p o) := h _ (same_upd n) upd_same

/-- whatever heap comes, what was tracked stands, and the answer is so -/
abbrev Post (H : Hp) (Q : VK) (R : Hp → V → Prop) : Prop := ∀ (H' : Hp) (v : V), Same H H' → R H' v → Q v H'
theorem Post.of {H H1 : Hp} {Q : VK} {R : Hp → V → Prop} (q : Post H Q R) (e : Same H H1) : Post H1 Q R := fun H' v s r => q H' v (e.trans s) r
def LstR (xs : List V) (H : Hp) (v : V) : Prop := ∃ p, v = .ref p ∧ H p = some (.lst xs)
/-- a list that is new over H0 -/
def LstN (H0 : Hp) (xs : List V) (H : Hp) (v : V) : Prop := ∃ p, v = .ref p ∧ H p = some (.lst xs) ∧ H0 p = none
theorem LstN.back {H0 H1 H : Hp} {xs : List V} {v : V} (h : LstN H1 xs H v) (s : Same H0 H1) : LstN H0 xs H v := by
  obtain ⟨p, e, h1, h2⟩ := h
  exact ⟨p, e, h1, s.free h2⟩
theorem off_free {a p : Addr} {H H' : Hp} {o : HO} (k : Off a H H') (e : H' a = some o) (n : H' p = none) : H p = none := by
  cases q : H p with
  | none => rfl
  | some u =>
    have ne : p ≠ a := fun z => by
      rw [z, e] at n
      cases n
    rw [k _ _ ne q] at n
    cases n
def StepR (K : PySem.W.Frag) (C : Addr) (s : St') (H : Hp) (v : V) : Prop := ∃ a, v = .ref a ∧ StepAt K C H a s
def RowR (K : PySem.W.Frag) (C : Addr) (ss : List St') (H : Hp) (v : V) : Prop := ∃ a, v = .ref a ∧ RowAt K C H a ss
def BlR (b : Bool) (_ : Hp) (v : V) : Prop := v = .bl b
theorem ifT {c : Bool} {A B : Prop} (hc : c = true) (h : A) : if c = true then A else B := by
  rw [if_pos hc]
  exact h
theorem ifF {c : Bool} {A B : Prop} (hc : c = false) (h : B) : if c = true then A else B := by
  rw [hc, if_neg Bool.false_ne_true]
  exact h
theorem dec_i {i j : Int} : decide (V.int i = V.int j) = decide (i = j) := by
  by_cases h : i = j
  · subst h
    simp
  · rw [decide_eq_false h, decide_eq_false]
    intro e
    exact h (V.int.inj e)
/-! ### reading a step's attributes -/
section
variable {K : PySem.W.Frag} {mg : Str → Option Value} {σ : L2.St} {H : Hp} {Q : V → Prop} {a dx o w : Addr} {s : St'} {i : Nat}
theorem r_kind (X : Txt K mg) (h : StepIn K X.C_Step H a s dx o w) (q : Q (.int (kN s))) (e : σ[i]? = some (some (.ref a)) := by rfl) :
    ∃ u, σ[i]? = some (some u) ∧ ∃ b C d fs v, u = .ref b ∧ H b = some (.ins C d fs) ∧ Cls K C ∧ NoAttr K C "kind" ∧ fs.lookup ("kind" : Str) = some v ∧ Q v := ⟨_, e, a, _, dx, _, _, rfl, h.ins, X.cl_Step, X.na_Step_kind, fS_kind, q⟩
theorem r_name (X : Txt K mg) (h : StepIn K X.C_Step H a s dx o w) (q : Q (vN (nmN s))) (e : σ[i]? = some (some (.ref a)) := by rfl) :
    ∃ u, σ[i]? = some (some u) ∧ ∃ b C d fs v, u = .ref b ∧ H b = some (.ins C d fs) ∧ Cls K C ∧ NoAttr K C "name" ∧ fs.lookup ("name" : Str) = some v ∧ Q v := ⟨_, e, a, _, dx, _, _, rfl, h.ins, X.cl_Step, X.na_Step_name, fS_name, q⟩
theorem r_place (X : Txt K mg) (h : StepIn K X.C_Step H a s dx o w) (q : Q (vN (plN s))) (e : σ[i]? = some (some (.ref a)) := by rfl) :
    ∃ u, σ[i]? = some (some u) ∧ ∃ b C d fs v, u = .ref b ∧ H b = some (.ins C d fs) ∧ Cls K C ∧ NoAttr K C "place" ∧ fs.lookup ("place" : Str) = some v ∧ Q v := ⟨_, e, a, _, dx, _, _, rfl, h.ins, X.cl_Step, X.na_Step_place, fS_place, q⟩
theorem r_old (X : Txt K mg) (h : StepIn K X.C_Step H a s dx o w) (q : Q (.ref o)) (e : σ[i]? = some (some (.ref a)) := by rfl) :
    ∃ u, σ[i]? = some (some u) ∧ ∃ b C d fs v, u = .ref b ∧ H b = some (.ins C d fs) ∧ Cls K C ∧ NoAttr K C "old" ∧ fs.lookup ("old" : Str) = some v ∧ Q v := ⟨_, e, a, _, dx, _, _, rfl, h.ins, X.cl_Step, X.na_Step_old, fS_old, q⟩
theorem r_new (X : Txt K mg) (h : StepIn K X.C_Step H a s dx o w) (q : Q (.ref w)) (e : σ[i]? = some (some (.ref a)) := by rfl) :
    ∃ u, σ[i]? = some (some u) ∧ ∃ b C d fs v, u = .ref b ∧ H b = some (.ins C d fs) ∧ Cls K C ∧ NoAttr K C "new" ∧ fs.lookup ("new" : Str) = some v ∧ Q v := ⟨_, e, a, _, dx, _, _, rfl, h.ins, X.cl_Step, X.na_Step_new, fS_new, q⟩
theorem r_goal (X : Txt K mg) (h : StepIn K X.C_Step H a s dx o w) (q : Q (vN (glN s))) (e : σ[i]? = some (some (.ref a)) := by rfl) :
    ∃ u, σ[i]? = some (some u) ∧ ∃ b C d fs v, u = .ref b ∧ H b = some (.ins C d fs) ∧ Cls K C ∧ NoAttr K C "goal" ∧ fs.lookup ("goal" : Str) = some v ∧ Q v := ⟨_, e, a, _, dx, _, _, rfl, h.ins, X.cl_Step, X.na_Step_goal, fS_goal, q⟩
/-- a call of one of a step's methods -/
theorem r_meth {m : Str} {R : V → Prop} {C : Addr} (h : StepIn K C H a s dx o w) (q : R (.ref a)) (e : σ[i]? = some (some (.ref a)) := by rfl) (n : noS m = true := by decide +kernel) :
    ∃ u, σ[i]? = some (some u) ∧ ∃ b d fs, u = .ref b ∧ H b = some (.ins C d fs) ∧ fs.lookup m = none ∧ R u := ⟨_, e, a, dx, _, rfl, h.ins, fS_no n, q⟩
end
end Rw

/-! part RwSteps -/
set_option Elab.async false
set_option linter.all false
set_option maxRecDepth 100000
set_option maxHeartbeats 4000000
namespace Rw
open PySem PySem.Spec PyProof.Rows L2
open VapatBase (Tokens)
/-! The class Step. -/
def Okk : St' → Prop
  | .hunk f _ o n => f < 10 ∧ o.length ≤ 8 ∧ n.length ≤ 8
  | .swap f _ _ => f < 10
  | .add f => f < 10
  | .remove f => f < 10
  | .move f g => f < 10 ∧ g < 10
theorem line_le {n : Nat} (h : n ≤ 100000) : n ≤ sizeLine := Nat.le_trans h (by decide)
theorem line_lt {n : Nat} (h : n ≤ 100000) : n < sizeLine := Nat.lt_of_le_of_lt h (by decide)
section
variable {P : Program} {w : World} {K : PySem.W.Frag} {mg : Str → Option Value} {base : Heap}
def sp_Step_init (X : Txt K mg) : Sp := fun vs H Q _ => ∃ (p dx o w : Addr) (k n pl g : Int), vs = [.ref p, .int k, .int n, .int pl, .ref o, .ref w, .int g] ∧ H p = some (.ins X.C_Step dx []) ∧
  ∀ H' : Hp, Off p H H' → H' p = some (.ins X.C_Step dx (fS k n pl o w g)) → Q .non H'
theorem ok_Step_init (X : Txt K mg) : FnOk P w K mg base CX0 1 X.m_Step_init.f X.m_Step_init.fd ["self", "kind", "name", "place", "old", "new", "goal"] (sp_Step_init X) := by
  refine X.m_Step_init.F.ok sc_Step_init (fun vs H Q E h => ?_) (fun cdv A outer s0 H vs Q E hr h => ?_)
  · obtain ⟨p, dx, o, w, k, n, pl, g, rfl, _⟩ := h
    rfl
  · obtain ⟨p, dx, o, w, k, n, pl, g, rfl, hp, q⟩ := h
    refine ⟨_, (pss_cons (ps_fld (pv 0) (pv 1) rfl)
        (pss_cons (ps_fld (pv 0) (pv 2) rfl)
        (pss_cons (ps_fld (pv 0) (pv 3) rfl)
        (pss_cons (ps_fld (pv 0) (pv 4) rfl)
        (pss_cons (ps_fld (pv 0) (pv 5) rfl)
        (pss_one (ps_fld (pv 0) (pv 6) rfl))))))), ?_⟩
    refine ⟨_, rfl, _, rfl, p, _, dx, _, rfl, hp, X.cl_Step, X.na_Step_kind, (by show 0 < 1000; decide), ?_⟩
    refine ⟨_, rfl, _, rfl, p, _, dx, _, rfl, upd_same, X.cl_Step, X.na_Step_name, (by show 1 < 1000; decide), ?_⟩
    rw [upd_upd, show putF "name" (V.int n) (putF "kind" (V.int k) []) = [(("kind" : Str), V.int k), ("name", V.int n)] from put_past (by decide +kernel)]
    refine ⟨_, rfl, _, rfl, p, _, dx, _, rfl, upd_same, X.cl_Step, X.na_Step_place, (by show 2 < 1000; decide), ?_⟩
    rw [upd_upd, show putF "place" (V.int pl) [(("kind" : Str), V.int k), ("name", V.int n)] = [(("kind" : Str), V.int k), ("name", V.int n), ("place", V.int pl)] from (put_past (by decide +kernel)).trans (congrArg _ (put_past (by decide +kernel)))]
    refine ⟨_, rfl, _, rfl, p, _, dx, _, rfl, upd_same, X.cl_Step, X.na_Step_old, (by show 3 < 1000; decide), ?_⟩
    rw [upd_upd, show putF "old" (V.ref o) [(("kind" : Str), V.int k), ("name", V.int n), ("place", V.int pl)] = [(("kind" : Str), V.int k), ("name", V.int n), ("place", V.int pl), ("old", V.ref o)] from (put_past (by decide +kernel)).trans (congrArg _ ((put_past (by decide +kernel)).trans (congrArg _ (put_past (by decide +kernel)))))]
    refine ⟨_, rfl, _, rfl, p, _, dx, _, rfl, upd_same, X.cl_Step, X.na_Step_new, (by show 4 < 1000; decide), ?_⟩
    rw [upd_upd, show putF "new" (V.ref w) [(("kind" : Str), V.int k), ("name", V.int n), ("place", V.int pl), ("old", V.ref o)] = [(("kind" : Str), V.int k), ("name", V.int n), ("place", V.int pl), ("old", V.ref o), ("new", V.ref w)] from (put_past (by decide +kernel)).trans (congrArg _ ((put_past (by decide +kernel)).trans (congrArg _ ((put_past (by decide +kernel)).trans (congrArg _ (put_past (by decide +kernel)))))))]
    refine ⟨_, rfl, _, rfl, p, _, dx, _, rfl, upd_same, X.cl_Step, X.na_Step_goal, (by show 5 < 1000; decide), ?_⟩
    rw [upd_upd]
    refine q _ Off.upd ?_
    rw [upd_same]
    refine congrArg (fun z => some (HO.ins X.C_Step dx z)) ?_
    exact (put_past (by decide +kernel)).trans (congrArg _ ((put_past (by decide +kernel)).trans (congrArg _ ((put_past (by decide +kernel)).trans (congrArg _ ((put_past (by decide +kernel)).trans (congrArg _ (put_past (by decide +kernel)))))))))
/-- a step is made -/
theorem make_step (X : Txt K mg) {H1 : Hp} {Q : VK} {o w : Addr} {k n pl g : Int} (s : St') (ho : SqT K H1 o (tok (olN s))) (hw : SqT K H1 w (tok (nwN s))) (ek : k = kN s) (en : n = nmN s) (ep : pl = plN s) (eg : g = glN s) (q : Post H1 Q (StepR K X.C_Step s)) :
    ∀ x dx, H1 x = none → H1 dx = none → dx ≠ x → sp_Step_init X (.ref x :: ([.int k, .int n, .int pl, .ref o, .ref w, .int g] ++ [])) (upd (upd H1 dx (.own x)) x (.ins X.C_Step dx [])) (fun v H2 => v = .non ∧ Q (.ref x) H2) E0 := by
  intro x dx nx nd ne
  subst ek en ep eg
  refine ⟨x, dx, o, w, _, _, _, _, rfl, upd_same, fun H' off e => ⟨rfl, ?_⟩⟩
  have sm : Same H1 H' := Same.made' nx nd off
  exact q H' _ sm ⟨x, rfl, dx, o, w, e, sqT_same sm ho, sqT_same sm hw⟩
def sp_Step_names (X : Txt K mg) : Sp := fun vs H Q _ => ∃ (a : Addr) (s : St'), vs = [.ref a] ∧ StepAt K X.C_Step H a s ∧ Post H Q (LstR (tok (VapatBase.namesOf s)))
theorem ok_Step_names (X : Txt K mg) : FnOk P w K mg base CX0 1 X.m_Step_names.f X.m_Step_names.fd ["self"] (sp_Step_names X) := by
  refine X.m_Step_names.F.ok sc_Step_names (fun vs H Q E h => ?_) (fun cdv A outer s0 H vs Q E hr h => ?_)
  · obtain ⟨a, s, rfl, _⟩ := h
    rfl
  · obtain ⟨a, s, rfl, ⟨dx, o, w, hs⟩, q⟩ := h
    refine ⟨_, (pss_cons (ps_if (pt_cmpR op_eq (pe_fld (pv 0) rfl) (pe_glob (v := .int 4) rfl X.c_MOVED.h ⟨_, rfl⟩) (nomark _)) (pss_one (ps_ret (pe_lst (pa_cons (pe_fld (pv 0) rfl) (pa_cons (pe_fld (pv 0) rfl) pa_nil))))) pss_nil)
        (pss_one (ps_ret (pe_lst (pa_cons (pe_fld (pv 0) rfl) pa_nil))))), ?_⟩
    refine r_kind X hs ?_
    refine ⟨rfl, _, rfl, ?_⟩
    rw [dec_i]
    cases s with
    | move f g =>
      refine ifT rfl ?_
      refine r_name X hs ?_
      refine r_goal X hs ?_
      refine ⟨(by show 2 ≤ sizeLine; decide), fun p hp => ?_⟩
      exact q _ _ (same_upd hp) ⟨p, rfl, upd_same⟩
    | _ =>
      refine ifF rfl ?_
      refine r_name X hs ?_
      refine ⟨(by show 1 ≤ sizeLine; decide), fun p hp => ?_⟩
      exact q _ _ (same_upd hp) ⟨p, rfl, upd_same⟩
def sp_Step_is_inside (X : Txt K mg) : Sp := fun vs H Q _ => ∃ (a : Addr) (s : St'), vs = [.ref a] ∧ StepAt K X.C_Step H a s ∧ Q (.bl (VapatBase.isInside s)) H
theorem ok_Step_is_inside (X : Txt K mg) : FnOk P w K mg base CX0 1 X.m_Step_is_inside.f X.m_Step_is_inside.fd ["self"] (sp_Step_is_inside X) := by
  refine X.m_Step_is_inside.F.ok sc_Step_is_inside (fun vs H Q E h => ?_) (fun cdv A outer s0 H vs Q E hr h => ?_)
  · obtain ⟨a, s, rfl, _⟩ := h
    rfl
  · obtain ⟨a, s, rfl, ⟨dx, o, w, hs⟩, q⟩ := h
    refine ⟨_, (pss_one (ps_ret (pe_or (pe_cmpR op_eq (pe_fld (pv 0) rfl) (pe_glob (v := .int 0) rfl X.c_HUNK.h ⟨_, rfl⟩) (nomark _)) (pe_one (pe_cmpR op_eq (pe_fld (pv 0) rfl) (pe_glob (v := .int 1) rfl X.c_SWAP.h ⟨_, rfl⟩) (nomark _)))))), ?_⟩
    refine r_kind X hs ?_
    refine ⟨rfl, _, rfl, ?_⟩
    rw [dec_i]
    cases s with
    | hunk f b u v => exact ifT rfl q
    | _ =>
      refine ifF rfl ?_
      refine r_kind X hs ?_
      refine ⟨rfl, ?_⟩
      rw [dec_i]
      exact q
def sp_Step_at_place (X : Txt K mg) : Sp := fun vs H Q _ => ∃ (a : Addr) (s s' : St') (z : Int), vs = [.ref a, .int z] ∧ StepAt K X.C_Step H a s ∧ (kN s' = kN s ∧ nmN s' = nmN s ∧ z = plN s' ∧ olN s' = olN s ∧ nwN s' = nwN s ∧ glN s' = glN s) ∧ Post H Q (StepR K X.C_Step s')
theorem ok_Step_at_place (X : Txt K mg) : FnOk P w K mg base CX0 3 X.m_Step_at_place.f X.m_Step_at_place.fd ["self", "place"] (sp_Step_at_place X) := by
  refine X.m_Step_at_place.F.ok sc_Step_at_place (fun vs H Q E h => ?_) (fun cdv A outer s0 H vs Q E hr h => ?_)
  · obtain ⟨a, s, s', z, rfl, _⟩ := h
    rfl
  · obtain ⟨a, s, s', z, rfl, ⟨dx, o, w, hs⟩, ⟨e1, e2, e3, e4, e5, e6⟩, q⟩ := h
    refine ⟨_, (pss_one (ps_ret (pe_make X.mk_Step (ok_Step_init X) (hr.mono (by decide)) rfl X.g_Step X.m_Step_init.b .nil pass0 (pa_cons (pe_fld (pv 0) rfl) (pa_cons (pe_fld (pv 0) rfl) (pa_cons (pv 1) (pa_cons (pe_fld (pv 0) rfl) (pa_cons (pe_fld (pv 0) rfl) (pa_cons (pe_fld (pv 0) rfl) pa_nil))))))))), ?_⟩
    refine r_kind X hs ?_
    refine r_name X hs ?_
    refine ⟨_, rfl, ?_⟩
    refine r_old X hs ?_
    refine r_new X hs ?_
    refine r_goal X hs ?_
    exact make_step X s' (by rw [e4]; exact hs.old) (by rw [e5]; exact hs.new) e1.symm (by rw [e2]) e3 (by rw [e6]) q
def sp_Step_in_file (X : Txt K mg) : Sp := fun vs H Q _ => ∃ (a : Addr) (s s' : St') (z : Int), vs = [.ref a, .int z] ∧ StepAt K X.C_Step H a s ∧ (kN s' = kN s ∧ z = nmN s' ∧ plN s' = plN s ∧ olN s' = olN s ∧ nwN s' = nwN s ∧ glN s' = glN s) ∧ Post H Q (StepR K X.C_Step s')
theorem ok_Step_in_file (X : Txt K mg) : FnOk P w K mg base CX0 3 X.m_Step_in_file.f X.m_Step_in_file.fd ["self", "name"] (sp_Step_in_file X) := by
  refine X.m_Step_in_file.F.ok sc_Step_in_file (fun vs H Q E h => ?_) (fun cdv A outer s0 H vs Q E hr h => ?_)
  · obtain ⟨a, s, s', z, rfl, _⟩ := h
    rfl
  · obtain ⟨a, s, s', z, rfl, ⟨dx, o, w, hs⟩, ⟨e1, e2, e3, e4, e5, e6⟩, q⟩ := h
    refine ⟨_, (pss_one (ps_ret (pe_make X.mk_Step (ok_Step_init X) (hr.mono (by decide)) rfl X.g_Step X.m_Step_init.b .nil pass0 (pa_cons (pe_fld (pv 0) rfl) (pa_cons (pv 1) (pa_cons (pe_fld (pv 0) rfl) (pa_cons (pe_fld (pv 0) rfl) (pa_cons (pe_fld (pv 0) rfl) (pa_cons (pe_fld (pv 0) rfl) pa_nil))))))))), ?_⟩
    refine r_kind X hs ?_
    refine ⟨_, rfl, ?_⟩
    refine r_place X hs ?_
    refine r_old X hs ?_
    refine r_new X hs ?_
    refine r_goal X hs ?_
    exact make_step X s' (by rw [e4]; exact hs.old) (by rw [e5]; exact hs.new) e1.symm e2 (by rw [e3]) (by rw [e6]) q
def sp_Step_with_tokens (X : Txt K mg) : Sp := fun vs H Q _ => ∃ (a u v : Addr) (s s' : St'), vs = [.ref a, .ref u, .ref v] ∧ StepAt K X.C_Step H a s ∧ SqT K H u (tok (olN s')) ∧ SqT K H v (tok (nwN s')) ∧ (kN s' = kN s ∧ nmN s' = nmN s ∧ plN s' = plN s ∧ glN s' = glN s) ∧ Post H Q (StepR K X.C_Step s')
theorem ok_Step_with_tokens (X : Txt K mg) : FnOk P w K mg base CX0 3 X.m_Step_with_tokens.f X.m_Step_with_tokens.fd ["self", "old", "new"] (sp_Step_with_tokens X) := by
  refine X.m_Step_with_tokens.F.ok sc_Step_with_tokens (fun vs H Q E h => ?_) (fun cdv A outer s0 H vs Q E hr h => ?_)
  · obtain ⟨a, u, v, s, s', rfl, _⟩ := h
    rfl
  · obtain ⟨a, u, v, s, s', rfl, ⟨dx, o, w, hs⟩, hu, hv, ⟨e1, e2, e3, e4⟩, q⟩ := h
    refine ⟨_, (pss_one (ps_ret (pe_make X.mk_Step (ok_Step_init X) (hr.mono (by decide)) rfl X.g_Step X.m_Step_init.b .nil pass0 (pa_cons (pe_fld (pv 0) rfl) (pa_cons (pe_fld (pv 0) rfl) (pa_cons (pe_fld (pv 0) rfl) (pa_cons (pv 1) (pa_cons (pv 2) (pa_cons (pe_fld (pv 0) rfl) pa_nil))))))))), ?_⟩
    refine r_kind X hs ?_
    refine r_name X hs ?_
    refine r_place X hs ?_
    refine ⟨_, rfl, _, rfl, ?_⟩
    refine r_goal X hs ?_
    exact make_step X s' hu hv e1.symm (by rw [e2]) (by rw [e3]) (by rw [e4]) q
end
end Rw

/-! part RwSteps2 -/
set_option Elab.async false
set_option linter.all false
set_option maxRecDepth 100000
set_option maxHeartbeats 4000000
namespace Rw
open PySem PySem.Spec PyProof.Rows L2
open VapatBase (Tokens)
/-! Steps turned round, as numbers, rows. -/
section
variable {P : Program} {w : World} {K : PySem.W.Frag} {mg : Str → Option Value} {base : Heap}
def sp_Step_turned (X : Txt K mg) : Sp := fun vs H Q _ => ∃ (a : Addr) (s : St'), vs = [.ref a] ∧ StepAt K X.C_Step H a s ∧ Post H Q (StepR K X.C_Step (VapatBase.turned s))
theorem ok_Step_turned (X : Txt K mg) : FnOk P w K mg base CX0 4 X.m_Step_turned.f X.m_Step_turned.fd ["self"] (sp_Step_turned X) := by
  refine X.m_Step_turned.F.ok sc_Step_turned (fun vs H Q E h => ?_) (fun cdv A outer s0 H vs Q E hr h => ?_)
  · obtain ⟨a, s, rfl, _⟩ := h
    rfl
  · obtain ⟨a, s, rfl, ⟨dx, o, w, hs⟩, q⟩ := h
    refine ⟨_, (pss_cons (ps_if (pt_cmpR op_eq (pe_fld (pv 0) rfl) (pe_glob (v := .int 0) rfl X.c_HUNK.h ⟨_, rfl⟩) (nomark _)) (pss_one (ps_ret (pe_meth (pv 0) X.cl_Step X.m_Step_with_tokens.m (ok_Step_with_tokens X) (hr.mono (by decide)) X.m_Step_with_tokens.b .nil pass0 (pa_cons (pe_fld (pv 0) rfl) (pa_cons (pe_fld (pv 0) rfl) pa_nil))))) pss_nil)
        (pss_cons (ps_if (pt_cmpR op_eq (pe_fld (pv 0) rfl) (pe_glob (v := .int 2) rfl X.c_ADDED.h ⟨_, rfl⟩) (nomark _)) (pss_one (ps_ret (pe_make X.mk_Step (ok_Step_init X) (hr.mono (by decide)) rfl X.g_Step X.m_Step_init.b .nil pass0 (pa_cons (pe_glob (v := .int 3) rfl X.c_REMOVED.h ⟨_, rfl⟩) (pa_cons (pe_fld (pv 0) rfl) (pa_cons pe_int (pa_cons (pe_tup pa_nil) (pa_cons (pe_tup pa_nil) (pa_cons pe_int pa_nil))))))))) pss_nil)
        (pss_cons (ps_if (pt_cmpR op_eq (pe_fld (pv 0) rfl) (pe_glob (v := .int 3) rfl X.c_REMOVED.h ⟨_, rfl⟩) (nomark _)) (pss_one (ps_ret (pe_make X.mk_Step (ok_Step_init X) (hr.mono (by decide)) rfl X.g_Step X.m_Step_init.b .nil pass0 (pa_cons (pe_glob (v := .int 2) rfl X.c_ADDED.h ⟨_, rfl⟩) (pa_cons (pe_fld (pv 0) rfl) (pa_cons pe_int (pa_cons (pe_tup pa_nil) (pa_cons (pe_tup pa_nil) (pa_cons pe_int pa_nil))))))))) pss_nil)
        (pss_cons (ps_if (pt_cmpR op_eq (pe_fld (pv 0) rfl) (pe_glob (v := .int 4) rfl X.c_MOVED.h ⟨_, rfl⟩) (nomark _)) (pss_one (ps_ret (pe_make X.mk_Step (ok_Step_init X) (hr.mono (by decide)) rfl X.g_Step X.m_Step_init.b .nil pass0 (pa_cons (pe_glob (v := .int 4) rfl X.c_MOVED.h ⟨_, rfl⟩) (pa_cons (pe_fld (pv 0) rfl) (pa_cons pe_int (pa_cons (pe_tup pa_nil) (pa_cons (pe_tup pa_nil) (pa_cons (pe_fld (pv 0) rfl) pa_nil))))))))) pss_nil)
        (pss_one (ps_ret (pv 0))))))), ?_⟩
    refine r_kind X hs ?_
    refine ⟨rfl, _, rfl, ?_⟩
    rw [dec_i]
    cases s with
    | hunk f b u v =>
      refine ifT rfl ?_
      refine r_meth hs ?_
      refine r_new X hs ?_
      refine r_old X hs ?_
      exact ⟨a, w, o, _, .hunk f b v u, rfl, ⟨dx, o, w, hs⟩, hs.new, hs.old, ⟨rfl, rfl, rfl, rfl⟩, q⟩
    | add f =>
      refine ifF rfl ?_
      refine r_kind X hs ?_
      refine ⟨rfl, _, rfl, ?_⟩
      rw [dec_i]
      refine ifT rfl ?_
      refine r_name X hs ?_
      refine ⟨Nat.zero_le _, fun p1 n1 => ?_⟩
      refine alloc n1 fun H1 s1 e1 => ?_
      refine ⟨Nat.zero_le _, fun p2 n2 => ?_⟩
      refine alloc n2 fun H2 s2 e2 => ?_
      exact make_step X (.remove f) (SqT.of (s2 _ _ e1)) (SqT.of e2) rfl rfl rfl rfl (q.of (s1.trans s2))
    | remove f =>
      refine ifF rfl ?_
      refine r_kind X hs ?_
      refine ⟨rfl, _, rfl, ?_⟩
      rw [dec_i]
      refine ifF rfl ?_
      refine r_kind X hs ?_
      refine ⟨rfl, _, rfl, ?_⟩
      rw [dec_i]
      refine ifT rfl ?_
      refine r_name X hs ?_
      refine ⟨Nat.zero_le _, fun p1 n1 => ?_⟩
      refine alloc n1 fun H1 s1 e1 => ?_
      refine ⟨Nat.zero_le _, fun p2 n2 => ?_⟩
      refine alloc n2 fun H2 s2 e2 => ?_
      exact make_step X (.add f) (SqT.of (s2 _ _ e1)) (SqT.of e2) rfl rfl rfl rfl (q.of (s1.trans s2))
    | move f g =>
      refine ifF rfl ?_
      refine r_kind X hs ?_
      refine ⟨rfl, _, rfl, ?_⟩
      rw [dec_i]
      refine ifF rfl ?_
      refine r_kind X hs ?_
      refine ⟨rfl, _, rfl, ?_⟩
      rw [dec_i]
      refine ifF rfl ?_
      refine r_kind X hs ?_
      refine ⟨rfl, _, rfl, ?_⟩
      rw [dec_i]
      refine ifT rfl ?_
      refine r_goal X hs ?_
      refine ⟨Nat.zero_le _, fun p1 n1 => ?_⟩
      refine alloc n1 fun H1 s1 e1 => ?_
      refine ⟨Nat.zero_le _, fun p2 n2 => ?_⟩
      refine alloc n2 fun H2 s2 e2 => ?_
      refine r_name X (hs.same (s1.trans s2)) ?_
      exact make_step X (.move g f) (SqT.of (s2 _ _ e1)) (SqT.of e2) rfl rfl rfl rfl (q.of (s1.trans s2))
    | swap f x y =>
      refine ifF rfl ?_
      refine r_kind X hs ?_
      refine ⟨rfl, _, rfl, ?_⟩
      rw [dec_i]
      refine ifF rfl ?_
      refine r_kind X hs ?_
      refine ⟨rfl, _, rfl, ?_⟩
      rw [dec_i]
      refine ifF rfl ?_
      refine r_kind X hs ?_
      refine ⟨rfl, _, rfl, ?_⟩
      rw [dec_i]
      refine ifF rfl ?_
      exact ⟨_, rfl, q _ _ (Same.refl H) ⟨a, rfl, dx, o, w, hs⟩⟩
/-- list(t) + .. as the numbers' lists -/
def sp_Step_numbers (X : Txt K mg) : Sp := fun vs H Q _ => ∃ (a : Addr) (s : St'), vs = [.ref a] ∧ StepAt K X.C_Step H a s ∧ Okk s ∧ Post H Q (LstR ((VapatBase.flatStep s).map V.int))
theorem ok_Step_numbers (X : Txt K mg) : FnOk P w K mg base CX0 1 X.m_Step_numbers.f X.m_Step_numbers.fd ["self"] (sp_Step_numbers X) := by
  refine X.m_Step_numbers.F.ok sc_Step_numbers (fun vs H Q E h => ?_) (fun cdv A outer s0 H vs Q E hr h => ?_)
  · obtain ⟨a, s, rfl, _⟩ := h
    rfl
  · obtain ⟨a, s, rfl, ⟨dx, o, w, hs⟩, ok, q⟩ := h
    refine ⟨_, (pss_cons (ps_if (pt_cmpR op_eq (pe_fld (pv 0) rfl) (pe_glob (v := .int 0) rfl X.c_HUNK.h ⟨_, rfl⟩) (nomark _)) (pss_cons (ps_set (i := 1) sc_Step_numbers.nd rfl (.inl rfl) (pe_op op_cat (pe_op op_cat (pe_op op_cat (pe_lst (pa_cons (pe_callB call_len_seq (by rfl) X.b_len (by decide +kernel) (pa_cons (pe_fld (pv 0) rfl) pa_nil)) pa_nil)) (pe_callTy call_list_of (by rfl) X.b_list (by decide +kernel) (pa_cons (pe_fld (pv 0) rfl) pa_nil))) (pe_lst (pa_cons (pe_callB call_len_seq (by rfl) X.b_len (by decide +kernel) (pa_cons (pe_fld (pv 0) rfl) pa_nil)) pa_nil))) (pe_callTy call_list_of (by rfl) X.b_list (by decide +kernel) (pa_cons (pe_fld (pv 0) rfl) pa_nil))))
        (pss_one (ps_ret (pe_op op_cat (pe_lst (pa_cons (pe_glob (v := .int 0) rfl X.c_HUNK.h ⟨_, rfl⟩) (pa_cons (pe_fld (pv 0) rfl) (pa_cons (pe_fld (pv 0) rfl) pa_nil)))) (pv 1))))) pss_nil)
        (pss_cons (ps_if (pt_cmpR op_eq (pe_fld (pv 0) rfl) (pe_glob (v := .int 1) rfl X.c_SWAP.h ⟨_, rfl⟩) (nomark _)) (pss_one (ps_ret (pe_lst (pa_cons (pe_glob (v := .int 1) rfl X.c_SWAP.h ⟨_, rfl⟩) (pa_cons (pe_fld (pv 0) rfl) (pa_cons (pe_ix ix_tup (pe_fld (pv 0) rfl) pe_int (fun _ _ => rfl)) (pa_cons (pe_ix ix_tup (pe_fld (pv 0) rfl) pe_int (fun _ _ => rfl)) pa_nil))))))) pss_nil)
        (pss_cons (ps_if (pt_cmpR op_eq (pe_fld (pv 0) rfl) (pe_glob (v := .int 4) rfl X.c_MOVED.h ⟨_, rfl⟩) (nomark _)) (pss_one (ps_ret (pe_lst (pa_cons (pe_glob (v := .int 4) rfl X.c_MOVED.h ⟨_, rfl⟩) (pa_cons (pe_fld (pv 0) rfl) (pa_cons (pe_fld (pv 0) rfl) pa_nil)))))) pss_nil)
        (pss_one (ps_ret (pe_lst (pa_cons (pe_fld (pv 0) rfl) (pa_cons (pe_fld (pv 0) rfl) pa_nil)))))))), ?_⟩
    refine r_kind X hs ?_
    refine ⟨rfl, _, rfl, ?_⟩
    rw [dec_i]
    cases s with
    | hunk f b u v =>
      obtain ⟨_, lu, lv⟩ := ok
      have eu : (tok u).length ≤ 8 := by rw [tok_len]; exact lu
      have ev : (tok v).length ≤ 8 := by rw [tok_len]; exact lv
      refine ifT rfl ?_
      refine r_old X hs ?_
      refine ⟨_, _, rfl, .inr hs.old, ?_⟩
      refine ⟨(by show 1 ≤ sizeLine; decide), fun p1 n1 => ?_⟩
      refine alloc n1 fun H1 s1 e1 => ?_
      refine r_old X (hs.same s1) ?_
      refine ⟨_, _, rfl, .inr (hs.same s1).old, fun p2 n2 => ?_⟩
      refine alloc n2 fun H2 s2 e2 => ?_
      refine ⟨_, _, _, _, rfl, rfl, s2 _ _ e1, e2, line_le (by simp [olN]; omega), fun p3 n3 => ?_⟩
      refine alloc n3 fun H3 s3 e3 => ?_
      have s13 := (s1.trans s2).trans s3
      refine r_new X (hs.same s13) ?_
      refine ⟨_, _, rfl, .inr (hs.same s13).new, ?_⟩
      refine ⟨(by show 1 ≤ sizeLine; decide), fun p4 n4 => ?_⟩
      refine alloc n4 fun H4 s4 e4 => ?_
      refine ⟨_, _, _, _, rfl, rfl, s4 _ _ e3, e4, line_le (by simp [olN]; omega), fun p5 n5 => ?_⟩
      refine alloc n5 fun H5 s5 e5 => ?_
      have s15 := (s13.trans s4).trans s5
      refine r_new X (hs.same s15) ?_
      refine ⟨_, _, rfl, .inr (hs.same s15).new, fun p6 n6 => ?_⟩
      refine alloc n6 fun H6 s6 e6 => ?_
      refine ⟨_, _, _, _, rfl, rfl, s6 _ _ e5, e6, line_le (by simp [olN, nwN]; omega), fun p7 n7 => ?_⟩
      refine alloc n7 fun H7 s7 e7 => ?_
      have s17 := (s15.trans s6).trans s7
      refine r_name X (hs.same s17) ?_
      refine r_place X (hs.same s17) ?_
      refine ⟨(by show 3 ≤ sizeLine; decide), fun p8 n8 => ?_⟩
      refine alloc n8 fun H8 s8 e8 => ?_
      refine ⟨_, rfl, _, _, _, _, rfl, rfl, e8, s8 _ _ e7, line_le (by simp [olN, nwN]; omega), fun p9 n9 => ?_⟩
      refine alloc n9 fun H9 s9 e9 => ?_
      refine q _ _ ((s17.trans s8).trans s9) ⟨p9, rfl, ?_⟩
      rw [e9]
      simp [olN, nwN, plN, nmN, VapatBase.flatStep, VapatBase.listed, VapatBase.ints, VapatBase.int, tok, Function.comp_def]
    | swap f x y =>
      refine ifF rfl ?_
      refine r_kind X hs ?_
      refine ⟨rfl, _, rfl, ?_⟩
      rw [dec_i]
      refine ifT rfl ?_
      refine r_name X hs ?_
      refine r_old X hs ?_
      refine ⟨_, _, _, _, rfl, rfl, hs.old, rfl, ?_⟩
      refine r_new X hs ?_
      refine ⟨_, _, _, _, rfl, rfl, hs.new, rfl, ?_⟩
      refine ⟨(by show 4 ≤ sizeLine; decide), fun p hp => ?_⟩
      exact q _ _ (same_upd hp) ⟨p, rfl, upd_same⟩
    | move f g =>
      refine ifF rfl ?_
      refine r_kind X hs ?_
      refine ⟨rfl, _, rfl, ?_⟩
      rw [dec_i]
      refine ifF rfl ?_
      refine r_kind X hs ?_
      refine ⟨rfl, _, rfl, ?_⟩
      rw [dec_i]
      refine ifT rfl ?_
      refine r_name X hs ?_
      refine r_goal X hs ?_
      refine ⟨(by show 3 ≤ sizeLine; decide), fun p hp => ?_⟩
      exact q _ _ (same_upd hp) ⟨p, rfl, upd_same⟩
    | _ =>
      refine ifF rfl ?_
      refine r_kind X hs ?_
      refine ⟨rfl, _, rfl, ?_⟩
      rw [dec_i]
      refine ifF rfl ?_
      refine r_kind X hs ?_
      refine ⟨rfl, _, rfl, ?_⟩
      rw [dec_i]
      refine ifF rfl ?_
      refine r_kind X hs ?_
      refine r_name X hs ?_
      refine ⟨(by show 2 ≤ sizeLine; decide), fun p hp => ?_⟩
      exact q _ _ (same_upd hp) ⟨p, rfl, upd_same⟩
def sp_turned_row (X : Txt K mg) : Sp := fun vs H Q _ => ∃ (a : Addr) (ss : List St'), vs = [.ref a] ∧ RowAt K X.C_Step H a ss ∧ ss.length ≤ 1000 ∧ Post H Q (RowR K X.C_Step (VapatBase.turnedAll ss))
theorem ok_turned_row (X : Txt K mg) : FnOk P w K mg base CX0 5 X.d_turned_row.f X.d_turned_row.fd ["row"] (sp_turned_row X) := by
  refine X.d_turned_row.F.ok sc_turned_row (fun vs H Q E h => ?_) (fun cdv A outer s0 H vs Q E hr h => ?_)
  · obtain ⟨a, ss, rfl, _⟩ := h
    rfl
  · obtain ⟨a, ss, rfl, ⟨as, ha, hss⟩, hl, q⟩ := h
    refine ⟨_, (pss_one (ps_ret (pe_lc (own := [("step", 1)])  rfl sc_turned_row.nd (pi_reversed (by rfl) X.b_reversed (pa_cons (pv 0) pa_nil)) (blkOk_by (own := [("step", 1)]) (N := n_turned_row) (sc := defScope s_turned_row) (by decide +kernel)) (fun _ _ _ _ _ => (pg_name (i := 1) sc_turned_row.nd rfl (.inl rfl))) (fun _ _ _ _ _ => pts_nil) (fun _ _ _ _ _ => (pe_meth0 (pv 1) X.cl_Step X.m_Step_turned.m (ok_Step_turned X) (hr.mono (by decide)) X.m_Step_turned.b .nil pass0))))), ?_⟩
    have la : as.length = ss.length := hss.len
    refine ⟨_, rfl, a, _, rfl, SqL.of ha, fun D hD => ?_⟩
    have q0 : Same H (upd H D (.lst [])) := same_upd hD
    refine lc_it walk_rev (fun i H' => ∃ bs, Same H H' ∧ H' D = some (.lst (bs.map V.ref)) ∧ StepsAt K X.C_Step H' bs ((ss.reverse.take i).map VapatBase.turned)) ⟨[], q0, upd_same, .nil⟩ (fun i H' _ ⟨bs, s1, _, _⟩ => SqL.of (s1 _ _ ha)) ?_ ?_
    · rintro i x H1 H2 hi ⟨bs, s1, eD, hbs⟩ ⟨rfl, hx⟩
      rw [List.length_map] at hi hx
      rw [List.getElem?_map] at hx
      obtain ⟨b, hb, rfl⟩ : ∃ b, as[as.length - 1 - i]? = some b ∧ x = V.ref b := by
        cases e : as[as.length - 1 - i]? with
        | none => rw [e] at hx; cases hx
        | some b => rw [e] at hx; exact ⟨b, rfl, (Option.some.inj hx).symm⟩
      obtain ⟨s, es, hs⟩ := hss.get hb
      obtain ⟨dx, o, w, hs⟩ := hs.same s1
      have lb : bs.length = i := by
        rw [hbs.len, List.length_map, List.length_take, List.length_reverse]
        omega
      refine ⟨rfl, ?_⟩
      refine r_meth hs ?_
      refine ⟨b, s, rfl, ⟨dx, o, w, hs⟩, fun H3 v s3 r3 => ?_⟩
      obtain ⟨c, rfl, hc⟩ := r3
      refine ⟨_, s3 _ _ eD, line_lt (by rw [List.length_map]; omega), ?_⟩
      have sD : Soft H3 D := .inl ⟨_, s3 _ _ eD⟩
      refine ⟨bs ++ [c], same_off (s1.trans s3) hD Off.upd, by rw [upd_same, List.map_append]; rfl, ?_⟩
      have et : (ss.reverse.take (i + 1)).map VapatBase.turned = (ss.reverse.take i).map VapatBase.turned ++ [VapatBase.turned s] := by
        rw [RM.take_more (x := s) (by rw [List.getElem?_reverse (by omega), ← es]; congr 1; omega), List.map_append]
        rfl
      rw [et]
      exact (steps_off (steps_same hbs s3) sD Off.upd).app (.one (hc.off sD Off.upd))
    · rintro H1 ⟨bs, s1, eD, hbs⟩
      refine q _ _ s1 ⟨D, rfl, bs, eD, ?_⟩
      rw [List.length_map, la, List.take_of_length_le (by rw [List.length_reverse]; exact Nat.le_refl _)] at hbs
      unfold VapatBase.turnedAll
      rw [← List.map_reverse]
      exact hbs
end
end Rw

/-! part RwRead -/
set_option Elab.async false
set_option linter.all false
set_option maxRecDepth 100000
set_option maxHeartbeats 4000000
namespace Rw
open PySem PySem.Spec PyProof.Rows L2
open VapatBase (Tokens)
/-! Steps read. -/
open RM (isNm isTok counted at0 hunkOf swapOf moveOf stepOf)
theorem at_i {ns : List Int} {i : Nat} {z : Int} (h : i < ns.length) (e : z = (i : Int)) : atI (ns.map V.int) z = some (.int (at0 ns i)) := by
  rw [e]
  refine atI_nat ?_
  rw [List.getElem?_map, List.getElem?_eq_getElem h]
  simp [at0, List.getElem?_eq_getElem h]
theorem cut_nat (xs : List V) (a b : Nat) : cutV xs (some (a : Int)) (some (b : Int)) = (xs.drop a).take (b - a) := by
  unfold cutV
  rw [HT.sIx_nat, HT.sIx_nat]
  rcases Nat.le_total xs.length a with h | h
  · rw [Nat.min_eq_right h, List.drop_of_length_le (Nat.le_refl _), List.drop_of_length_le h]
    simp
  · rw [Nat.min_eq_left h]
    rcases Nat.le_total xs.length b with k | k
    · rw [Nat.min_eq_right k, List.take_of_length_le (by rw [List.length_drop]; exact Nat.le_refl _), List.take_of_length_le (by rw [List.length_drop]; omega)]
    · rw [Nat.min_eq_left k]
theorem cut_to (xs : List V) (b : Nat) : cutV xs none (some (b : Int)) = xs.take b := by
  unfold cutV
  rw [HT.sIx_none, HT.sIx_nat, List.drop_zero, Nat.sub_zero]
  rcases Nat.le_total xs.length b with k | k
  · rw [Nat.min_eq_right k, List.take_of_length_le (Nat.le_refl _), List.take_of_length_le k]
  · rw [Nat.min_eq_left k]
theorem cut_from (xs : List V) (a : Nat) : cutV xs (some (a : Int)) none = xs.drop a := by
  unfold cutV
  rw [HT.sIx_none, HT.sIx_nat]
  rcases Nat.le_total xs.length a with h | h
  · rw [Nat.min_eq_right h, List.drop_of_length_le (Nat.le_refl _), List.drop_of_length_le h]
    simp
  · rw [Nat.min_eq_left h, List.take_of_length_le (by rw [List.length_drop]; exact Nat.le_refl _)]
/-- a step, or None -/
def StepO (K : PySem.W.Frag) (C : Addr) (s : Option St') (H : Hp) (v : V) : Prop := match s with
  | none => v = .non
  | some s => ∃ a, v = .ref a ∧ StepAt K C H a s
/-- a tuple of tokens, or None -/
def TokO (K : PySem.W.Frag) (l : Option (List Nat)) (H : Hp) (v : V) : Prop := match l with
  | none => v = .non
  | some l => ∃ a, v = .ref a ∧ SqT K H a (tok l)
section
variable {P : Program} {w : World} {K : PySem.W.Frag} {mg : Str → Option Value} {base : Heap}
def sp_is_name (X : Txt K mg) : Sp := fun vs H Q _ => ∃ (z : Int), vs = [.int z] ∧ Q (.bl (isNm z)) H
theorem ok_is_name (X : Txt K mg) : FnOk P w K mg base CX0 1 X.d_is_name.f X.d_is_name.fd ["number"] (sp_is_name X) := by
  refine X.d_is_name.F.ok sc_is_name (fun vs H Q E h => ?_) (fun cdv A outer s0 H vs Q E hr h => ?_)
  · obtain ⟨z, rfl, _⟩ := h
    rfl
  · obtain ⟨z, rfl, q⟩ := h
    refine ⟨_, (pss_one (ps_ret (pe_chain op_le op_le pe_int (pv 0) (pe_glob (v := .int 9) rfl X.c_MOST_NAME.h ⟨_, rfl⟩)))), ?_⟩
    refine ⟨_, rfl, _, _, rfl, rfl, _, rfl, ?_⟩
    by_cases h : 0 ≤ z
    · refine ifT (decide_eq_true h) ⟨_, _, rfl, rfl, ?_⟩
      have e : decide (z ≤ 9) = isNm z := by simp [isNm, h]
      rw [← e] at q
      exact q
    · refine ifF (decide_eq_false h) ?_
      have e : false = isNm z := by simp [isNm, h]
      rw [← e] at q
      exact q
def sp_is_token (X : Txt K mg) : Sp := fun vs H Q _ => ∃ (z : Int), vs = [.int z] ∧ Q (.bl (isTok z)) H
theorem ok_is_token (X : Txt K mg) : FnOk P w K mg base CX0 1 X.d_is_token.f X.d_is_token.fd ["number"] (sp_is_token X) := by
  refine X.d_is_token.F.ok sc_is_token (fun vs H Q E h => ?_) (fun cdv A outer s0 H vs Q E hr h => ?_)
  · obtain ⟨z, rfl, _⟩ := h
    rfl
  · obtain ⟨z, rfl, q⟩ := h
    refine ⟨_, (pss_one (ps_ret (pe_chain op_le op_le pe_int (pv 0) (pe_glob (v := .int 99) rfl X.c_MOST_TOKEN.h ⟨_, rfl⟩)))), ?_⟩
    refine ⟨_, rfl, _, _, rfl, rfl, _, rfl, ?_⟩
    by_cases h : 0 ≤ z
    · refine ifT (decide_eq_true h) ⟨_, _, rfl, rfl, ?_⟩
      have e : decide (z ≤ 99) = isTok z := by simp [isTok, h]
      rw [← e] at q
      exact q
    · refine ifF (decide_eq_false h) ?_
      have e : false = isTok z := by simp [isTok, h]
      rw [← e] at q
      exact q
theorem filt_more {ns : List Int} {i : Nat} {z : Int} {p : Int → Bool} (h : ns[i]? = some z) : (ns.take (i + 1)).filter p = (ns.take i).filter p ++ (if p z then [z] else []) := by
  rw [RM.take_more h, List.filter_append]
  congr 1
  rw [List.filter_cons]
  split <;> rfl
theorem map_get {ns : List Int} {i : Nat} {y : V} (hi : (ns.map V.int)[i]? = some y) : ∃ z, ns[i]? = some z ∧ y = V.int z := by
  rw [List.getElem?_map] at hi
  cases e : ns[i]? with
  | none => rw [e] at hi; cases hi
  | some z => rw [e] at hi; exact ⟨z, rfl, (Option.some.inj hi).symm⟩
theorem ref_get {as : List Addr} {i : Nat} {y : V} (hi : (as.map V.ref)[i]? = some y) : ∃ a, as[i]? = some a ∧ y = V.ref a := by
  rw [List.getElem?_map] at hi
  cases e : as[i]? with
  | none => rw [e] at hi; cases hi
  | some z => rw [e] at hi; exact ⟨z, rfl, (Option.some.inj hi).symm⟩
theorem sqT_of_same {H H' : Hp} {a : Addr} {xs : List V} (s : Same H H') (h : SqL K H a xs ∨ SqT K H a xs) : SqL K H' a xs ∨ SqT K H' a xs := h.imp (fun h => s.seq h) (fun h => sqT_same s h)
def PvT (H : Hp) (ns : List Int) (D : Addr) : Nat → Hp → Prop := fun i H' => Same H H' ∧ H' D = some (.lst (((ns.take i).filter fun z => !isTok z).map V.int))
def sp_are_tokens (X : Txt K mg) : Sp := fun vs H Q _ => ∃ (a : Addr) (ns : List Int), vs = [.ref a] ∧ (SqL K H a (ns.map V.int) ∨ SqT K H a (ns.map V.int)) ∧ ns.length ≤ 1000 ∧ ∀ H' : Hp, Same H H' → Q (.bl (ns.all isTok)) H'
theorem ok_are_tokens (X : Txt K mg) : FnOk P w K mg base CX0 2 X.d_are_tokens.f X.d_are_tokens.fd ["numbers"] (sp_are_tokens X) := by
  refine X.d_are_tokens.F.ok sc_are_tokens (fun vs H Q E h => ?_) (fun cdv A outer s0 H vs Q E hr h => ?_)
  · obtain ⟨a, ns, rfl, _⟩ := h
    rfl
  · obtain ⟨a, ns, rfl, hS, hl, q⟩ := h
    refine ⟨_, (pss_one (ps_ret (pe_cmpR op_eq (pe_callB call_len_seq (by rfl) X.b_len (by decide +kernel) (pa_cons (pe_lc (own := [("number", 1)])  rfl sc_are_tokens.nd (pi_or (pi_list (pv 0)) (pi_tup (pv 0))) (blkOk_by (own := [("number", 1)]) (N := n_are_tokens) (sc := defScope s_are_tokens) (by decide +kernel)) (fun _ _ _ _ _ => (pg_name (i := 1) sc_are_tokens.nd rfl (.inl rfl))) (fun _ _ _ _ _ => (pts_one (pt_not (pt_val (pe_call (ok_is_token X) (hr.mono (by decide)) rfl X.d_is_token.g X.d_is_token.F.kp X.d_is_token.b .nil pass0 (pa_cons (pv 1) pa_nil)))))) (fun _ _ _ _ _ => (pv 1))) pa_nil)) pe_int (nomark _)))), ?_⟩
    have pv0 : ∀ (D : Addr), H D = none → PvT H ns D 0 (upd H D (.lst [])) := fun D hD => ⟨same_upd hD, upd_same⟩
    have fin : ∀ (D : Addr) (H' : Hp), Same H H' → H' D = some (.lst (((ns.take (ns.map V.int).length).filter fun z => !isTok z).map V.int)) → rEq (.int ((((ns.take (ns.map V.int).length).filter fun z => !isTok z).map V.int).length : Int)) (.int 0) H' Q := by
      intro D H' s1 eD
      refine ⟨rfl, ?_⟩
      rw [dec_i, List.length_map, List.length_map, List.take_length]
      have e : decide ((((ns.filter fun z => !isTok z).length : Nat) : Int) = 0) = ns.all isTok := by
        rw [Bool.eq_iff_iff, decide_eq_true_eq, List.all_eq_true]
        constructor
        · intro h x hx
          have h0 : (ns.filter fun z => !isTok z) = [] := List.length_eq_zero_iff.mp (by omega)
          have := List.filter_eq_nil_iff.mp h0 x hx
          simpa using this
        · intro h
          have h0 : (ns.filter fun z => !isTok z) = [] := List.filter_eq_nil_iff.mpr fun x hx => by simp [h x hx]
          rw [h0]
          rfl
      rw [e]
      exact q H' s1
    rcases hS with hS | hS
    · refine .inl ⟨_, rfl, a, rfl, ⟨_, hS⟩, fun D hD => lc_it walk_list (PvT H ns D) (pv0 D hD) (fun i H' _ p => p.1.seq hS) ?_ fun H' p => ⟨D, _, rfl, .inl (SqL.of p.2), fin D H' p.1 p.2⟩⟩
      rintro i x H1 H2 hi ⟨s1, eD⟩ ⟨rfl, hx⟩
      obtain ⟨z, hz, rfl⟩ := map_get hx
      refine ⟨rfl, _, rfl, z, rfl, _, rfl, ?_⟩
      have fm := filt_more (p := fun z => !isTok z) hz
      have hlt := (List.getElem?_eq_some_iff.mp hz).1
      by_cases c : (!isTok z) = true
      · refine ifT c ⟨_, rfl, _, eD, line_lt ?_, same_off s1 hD Off.upd, ?_⟩
        · rw [List.length_map]
          exact Nat.le_trans (List.length_filter_le _ _) (by rw [List.length_take]; omega)
        · rw [upd_same, fm, if_pos c, List.map_append]
          rfl
      · refine ifF (by simpa using c) ⟨s1, ?_⟩
        rw [fm, if_neg c, List.append_nil]
        exact eD
    · refine .inr ⟨_, rfl, a, rfl, ⟨_, hS⟩, fun D hD => lc_it walk_tup (PvT H ns D) (pv0 D hD) (fun i H' _ p => sqT_same p.1 hS) ?_ fun H' p => ⟨D, _, rfl, .inl (SqL.of p.2), fin D H' p.1 p.2⟩⟩
      rintro i x H1 H2 hi ⟨s1, eD⟩ ⟨rfl, hx⟩
      obtain ⟨z, hz, rfl⟩ := map_get hx
      refine ⟨rfl, _, rfl, z, rfl, _, rfl, ?_⟩
      have fm := filt_more (p := fun z => !isTok z) hz
      have hlt := (List.getElem?_eq_some_iff.mp hz).1
      by_cases c : (!isTok z) = true
      · refine ifT c ⟨_, rfl, _, eD, line_lt ?_, same_off s1 hD Off.upd, ?_⟩
        · rw [List.length_map]
          exact Nat.le_trans (List.length_filter_le _ _) (by rw [List.length_take]; omega)
        · rw [upd_same, fm, if_pos c, List.map_append]
          rfl
      · refine ifF (by simpa using c) ⟨s1, ?_⟩
        rw [fm, if_neg c, List.append_nil]
        exact eD
def sp_counted_row (X : Txt K mg) : Sp := fun vs H Q _ => ∃ (a : Addr) (ns : List Int) (i m : Nat), vs = [.ref a, .int (i : Int), .int (m : Int)] ∧ SqL K H a (ns.map V.int) ∧ ns.length ≤ 1000 ∧ Post H Q (TokO K (counted ns i m))
theorem tok_of (l : List Int) (h : l.all isTok = true) : l.map V.int = tok (l.map Int.toNat) := by
  unfold tok
  rw [List.map_map]
  refine List.map_congr_left fun z hz => ?_
  have := List.all_eq_true.mp h z hz
  simp only [isTok, decide_eq_true_eq] at this
  show V.int z = V.int ((z.toNat : Nat) : Int)
  rw [Int.toNat_of_nonneg this.1]
theorem ok_counted_row (X : Txt K mg) : FnOk P w K mg base CX0 3 X.d_counted_row.f X.d_counted_row.fd ["numbers", "at", "most"] (sp_counted_row X) := by
  refine X.d_counted_row.F.ok sc_counted_row (fun vs H Q E h => ?_) (fun cdv A outer s0 H vs Q E hr h => ?_)
  · obtain ⟨a, ns, i, m, rfl, _⟩ := h
    rfl
  · obtain ⟨a, ns, i, m, rfl, hS, hl, q⟩ := h
    refine ⟨_, (pss_cons (ps_if (PW.pt (pw_or (pt_cmpR op_ge (pv 1) (pe_callB call_len_seq (by rfl) X.b_len (by decide +kernel) (pa_cons (pv 0) pa_nil)) (nomark _)) (pw_or (pt_not (pt_chain op_le op_le pe_int (pe_ix ix_list (pv 0) (pv 1) (fun _ _ => rfl)) (pv 2))) (pw_or1 (pt_cmpR op_ge (pe_op op_add (pv 1) (pe_ix ix_list (pv 0) (pv 1) (fun _ _ => rfl))) (pe_callB call_len_seq (by rfl) X.b_len (by decide +kernel) (pa_cons (pv 0) pa_nil)) (nomark _)))))) (pss_one (ps_ret pe_non)) pss_nil)
        (pss_cons (ps_set (i := 3) sc_counted_row.nd rfl (.inl rfl) (pe_callTy call_tuple_of (by rfl) X.b_tuple (by decide +kernel) (pa_cons (pe_slice sl_list (pv 0) (po_some (pe_op op_add (pv 1) pe_int)) (po_some (pe_op op_add (pe_op op_add (pv 1) pe_int) (pe_ix ix_list (pv 0) (pv 1) (fun _ _ => rfl))))) pa_nil)))
        (pss_cons (ps_if (pt_not (pt_val (pe_call (ok_are_tokens X) (hr.mono (by decide)) rfl X.d_are_tokens.g X.d_are_tokens.F.kp X.d_are_tokens.b .nil pass0 (pa_cons (pv 3) pa_nil)))) (pss_one (ps_ret pe_non)) pss_nil)
        (pss_one (ps_ret (pv 3)))))), ?_⟩
    have ln : (ns.map V.int).length = ns.length := List.length_map ..
    refine ⟨_, rfl, _, rfl, _, _, rfl, .inl hS, _, _, rfl, rfl, _, rfl, ?_⟩
    by_cases c1 : (i : Int) ≥ ((ns.map V.int).length : Int)
    · refine ifT (decide_eq_true c1) ?_
      refine ifT rfl ?_
      refine q H _ (Same.refl H) ?_
      have e : ns[i]? = none := List.getElem?_eq_none_iff.mpr (by rw [ln] at c1; omega)
      unfold counted
      rw [e]
      rfl
    · refine ifF (decide_eq_false c1) ?_
      have hi : i < ns.length := by rw [ln] at c1; omega
      have e : ns[i]? = some (at0 ns i) := by simp [at0, List.getElem?_eq_getElem hi]
      have ha : atI (ns.map V.int) (i : Int) = some (.int (at0 ns i)) := at_i hi rfl
      refine ⟨_, rfl, _, rfl, _, _, _, _, rfl, rfl, hS, ha, _, _, rfl, rfl, _, rfl, ?_⟩
      have ec : counted ns i m = if 0 ≤ at0 ns i ∧ at0 ns i ≤ (m : Int) then (if (i : Int) + at0 ns i ≥ ns.length then none else (if ((ns.drop (i + 1)).take (at0 ns i).toNat).all isTok = true then some (((ns.drop (i + 1)).take (at0 ns i).toNat).map Int.toNat) else none)) else none := by
        unfold counted
        rw [e]
      rw [ec] at q
      generalize at0 ns i = c at e q ha
      have no : ¬ (0 ≤ c ∧ c ≤ (m : Int)) → Q .non H := fun h => by
        rw [if_neg h] at q
        exact q H _ (Same.refl H) rfl
      by_cases c2 : 0 ≤ c
      · refine ifT (decide_eq_true c2) ⟨_, rfl, _, _, rfl, rfl, _, rfl, ?_⟩
        by_cases c3 : c ≤ (m : Int)
        · refine ifF (by show (!decide (c ≤ (m : Int))) = false; rw [decide_eq_true c3]; rfl) ?_
          rw [if_pos ⟨c2, c3⟩] at q
          refine ⟨_, rfl, _, rfl, _, rfl, _, _, _, _, rfl, rfl, hS, ha, _, _, rfl, rfl, _, rfl, _, _, rfl, .inl hS, _, _, rfl, rfl, _, rfl, ?_⟩
          by_cases c4 : (i : Int) + c ≥ ((ns.map V.int).length : Int)
          · rw [if_pos (by rw [ln] at c4; exact c4)] at q
            exact ifT (decide_eq_true c4) (q H _ (Same.refl H) rfl)
          · refine ifF (decide_eq_false c4) ?_
            rw [if_neg (by rw [ln] at c4; exact c4)] at q
            refine ⟨_, rfl, _, rfl, _, _, rfl, rfl, _, rfl, _, rfl, _, _, rfl, rfl, _, rfl, _, rfl, _, _, _, _, rfl, rfl, hS, ha, _, _, rfl, rfl, _, rfl, _, _, rfl, hS, fun p1 n1 => ?_⟩
            have ecut : cutV (ns.map V.int) (some ((i : Int) + 1)) (some ((i : Int) + 1 + c)) = ((ns.drop (i + 1)).take c.toNat).map V.int := by
              have e1 : (i : Int) + 1 = ((i + 1 : Nat) : Int) := by omega
              have e2 : (i : Int) + 1 + c = ((i + 1 + c.toNat : Nat) : Int) := by omega
              rw [e2, e1, cut_nat, List.map_take, List.map_drop]
              congr 1
              omega
            rw [ecut]
            refine alloc n1 fun H1 s1 e1 => ?_
            refine ⟨_, _, rfl, .inl ⟨SqL.of e1, fun p2 n2 => ?_⟩⟩
            refine alloc n2 fun H2 s2 e2 => ?_
            have lt : ((ns.drop (i + 1)).take c.toNat).length ≤ 1000 := by
              rw [List.length_take, List.length_drop]
              omega
            refine ⟨_, rfl, p2, _, rfl, .inr (SqT.of e2), lt, fun H3 s3 => ⟨_, rfl, ?_⟩⟩
            have s13 := (s1.trans s2).trans s3
            by_cases c5 : ((ns.drop (i + 1)).take c.toNat).all isTok = true
            · rw [if_pos c5] at q
              refine ifF (by rw [c5]; rfl) ⟨_, rfl, q H3 _ s13 ⟨p2, rfl, ?_⟩⟩
              rw [← tok_of _ c5]
              exact SqT.of (s3 _ _ e2)
            · rw [if_neg c5] at q
              exact ifT (by simpa using c5) (q H3 _ s13 rfl)
        · refine ifT (by show (!decide (c ≤ (m : Int))) = true; rw [decide_eq_false c3]; rfl) ?_
          exact ifT rfl (no fun h => c3 h.2)
      · refine ifF (decide_eq_false c2) ⟨_, rfl, ?_⟩
        exact ifT rfl (ifT rfl (no fun h => c2 h.1))
end
end Rw

/-! part RwRead2 -/
set_option Elab.async false
set_option linter.all false
set_option maxRecDepth 100000
set_option maxHeartbeats 4000000
namespace Rw
open PySem PySem.Spec PyProof.Rows L2
open VapatBase (Tokens)
open RM (isNm isTok counted at0 hunkOf swapOf moveOf stepOf)
theorem int_nat {z : Int} (h : isNm z = true) : z = ((z.toNat : Nat) : Int) := by
  simp only [isNm, decide_eq_true_eq] at h
  omega
section
variable {P : Program} {w : World} {K : PySem.W.Frag} {mg : Str → Option Value} {base : Heap}
def sp_read_hunk (X : Txt K mg) : Sp := fun vs H Q _ => ∃ (a : Addr) (ns : List Int), vs = [.ref a] ∧ SqL K H a (ns.map V.int) ∧ ns.length ≤ 1000 ∧ Post H Q (StepO K X.C_Step (hunkOf ns))
theorem ok_read_hunk (X : Txt K mg) : FnOk P w K mg base CX0 4 X.d_read_hunk.f X.d_read_hunk.fd ["numbers"] (sp_read_hunk X) := by
  refine X.d_read_hunk.F.ok sc_read_hunk (fun vs H Q E h => ?_) (fun cdv A outer s0 H vs Q E hr h => ?_)
  · obtain ⟨a, ns, rfl, _⟩ := h
    rfl
  · obtain ⟨a, ns, rfl, hS, hl, q⟩ := h
    refine ⟨_, (pss_cons (ps_if (PW.pt (pw_or (pt_cmpR op_lt (pe_callB call_len_seq (by rfl) X.b_len (by decide +kernel) (pa_cons (pv 0) pa_nil)) pe_int (nomark _)) (pw_or (pt_not (pt_val (pe_call (ok_is_name X) (hr.mono (by decide)) rfl X.d_is_name.g X.d_is_name.F.kp X.d_is_name.b .nil pass0 (pa_cons (pe_ix ix_list (pv 0) pe_int (fun _ _ => rfl)) pa_nil)))) (pw_or1 (pt_not (pt_chain op_le op_le pe_int (pe_ix ix_list (pv 0) pe_int (fun _ _ => rfl)) (pe_glob (v := .int 1000) rfl X.c_MOST_PLACE.h ⟨_, rfl⟩))))))) (pss_one (ps_ret pe_non)) pss_nil)
        (pss_cons (ps_set (i := 1) sc_read_hunk.nd rfl (.inl rfl) (pe_call (ok_counted_row X) (hr.mono (by decide)) rfl X.d_counted_row.g X.d_counted_row.F.kp X.d_counted_row.b .nil pass0 (pa_cons (pv 0) (pa_cons pe_int (pa_cons (pe_glob (v := .int 8) rfl X.c_MOST_TOKENS.h ⟨_, rfl⟩) pa_nil)))))
        (pss_cons (ps_if (pt_cmp (pc_isN (pv 1)) rfl) (pss_one (ps_ret pe_non)) pss_nil)
        (pss_cons (ps_set (i := 2) sc_read_hunk.nd rfl (.inl rfl) (pe_call (ok_counted_row X) (hr.mono (by decide)) rfl X.d_counted_row.g X.d_counted_row.F.kp X.d_counted_row.b .nil pass0 (pa_cons (pv 0) (pa_cons (pe_op op_add pe_int (pe_callB call_len_seq (by rfl) X.b_len (by decide +kernel) (pa_cons (pv 1) pa_nil))) (pa_cons (pe_glob (v := .int 8) rfl X.c_MOST_TOKENS.h ⟨_, rfl⟩) pa_nil)))))
        (pss_cons (ps_if (PW.pt (pw_or (pt_cmp (pc_isN (pv 2)) rfl) (pw_or (pt_cmpR op_ne (pe_callB call_len_seq (by rfl) X.b_len (by decide +kernel) (pa_cons (pv 0) pa_nil)) (pe_op op_add (pe_op op_add pe_int (pe_callB call_len_seq (by rfl) X.b_len (by decide +kernel) (pa_cons (pv 1) pa_nil))) (pe_callB call_len_seq (by rfl) X.b_len (by decide +kernel) (pa_cons (pv 2) pa_nil))) (nomark _)) (pw_or1 (pt_cmpR op_eq (pe_op op_add (pe_callB call_len_seq (by rfl) X.b_len (by decide +kernel) (pa_cons (pv 1) pa_nil)) (pe_callB call_len_seq (by rfl) X.b_len (by decide +kernel) (pa_cons (pv 2) pa_nil))) pe_int (nomark _)))))) (pss_one (ps_ret pe_non)) pss_nil)
        (pss_one (ps_ret (pe_make X.mk_Step (ok_Step_init X) (hr.mono (by decide)) rfl X.g_Step X.m_Step_init.b .nil pass0 (pa_cons (pe_glob (v := .int 0) rfl X.c_HUNK.h ⟨_, rfl⟩) (pa_cons (pe_ix ix_list (pv 0) pe_int (fun _ _ => rfl)) (pa_cons (pe_ix ix_list (pv 0) pe_int (fun _ _ => rfl)) (pa_cons (pv 1) (pa_cons (pv 2) (pa_cons pe_int pa_nil)))))))))))))), ?_⟩
    have ln : (ns.map V.int).length = ns.length := List.length_map ..
    unfold hunkOf at q
    refine ⟨_, rfl, _, _, rfl, .inl hS, _, _, rfl, rfl, _, rfl, ?_⟩
    by_cases c1 : ((ns.map V.int).length : Int) < 5
    · rw [if_pos (by rw [ln] at c1; omega)] at q
      exact ifT (decide_eq_true c1) (ifT rfl (q H _ (Same.refl H) rfl))
    · rw [if_neg (by rw [ln] at c1; omega)] at q
      have l5 : 5 ≤ ns.length := by rw [ln] at c1; omega
      refine ifF (decide_eq_false c1) ⟨_, rfl, _, _, _, _, rfl, rfl, hS, at_i (i := 1) (by omega) rfl, _, rfl, _, rfl, ?_⟩
      by_cases c2 : isNm (at0 ns 1) = true
      · rw [if_pos c2] at q
        refine ifF (by rw [c2]; rfl) ⟨_, rfl, _, _, _, _, rfl, rfl, hS, at_i (i := 2) (by omega) rfl, _, _, rfl, rfl, _, rfl, ?_⟩
        have bad : ¬ (0 ≤ at0 ns 2 ∧ at0 ns 2 ≤ 1000) → Q .non H := fun h => by
          rw [if_neg h] at q
          exact q H _ (Same.refl H) rfl
        by_cases c3 : 0 ≤ at0 ns 2
        · refine ifT (decide_eq_true c3) ⟨_, _, rfl, rfl, _, rfl, ?_⟩
          by_cases c4 : at0 ns 2 ≤ 1000
          · rw [if_pos ⟨c3, c4⟩] at q
            refine ifF (by show (!decide (at0 ns 2 ≤ 1000)) = false; rw [decide_eq_true c4]; rfl) ?_
            refine ⟨_, rfl, a, ns, 3, 8, rfl, hS, hl, fun H1 v1 s1 r1 => ?_⟩
            cases eo : counted ns 3 8 with
            | none =>
              rw [eo] at r1 q
              cases (show v1 = .non from r1)
              refine ⟨_, rfl, _, rfl, ?_⟩
              exact ifT rfl (q H1 _ s1 rfl)
            | some old =>
              rw [eo] at r1 q
              simp only at q
              obtain ⟨o, rfl, ho⟩ := r1
              refine ⟨_, rfl, _, rfl, ?_⟩
              refine ifF rfl ?_
              refine ⟨_, rfl, _, rfl, _, _, rfl, .inr ho, _, _, rfl, rfl, a, ns, 4 + old.length, 8, ?_, s1.seq hS, hl, fun H2 v2 s2 r2 => ?_⟩
              · rw [tok_len]
                rfl
              have s12 := s1.trans s2
              cases en : counted ns (4 + old.length) 8 with
              | none =>
                rw [en] at r2 q
                cases (show v2 = .non from r2)
                refine ⟨_, rfl, _, rfl, ?_⟩
                exact ifT rfl (ifT rfl (q H2 _ s12 rfl))
              | some new =>
                rw [en] at r2 q
                simp only at q
                obtain ⟨w', rfl, hw⟩ := r2
                have ho2 := sqT_same s2 ho
                refine ⟨_, rfl, _, rfl, ?_⟩
                refine ifF rfl ?_
                refine ⟨_, rfl, _, _, rfl, .inl (s12.seq hS), _, rfl, _, _, rfl, .inr ho2, _, _, rfl, rfl, _, rfl, _, _, rfl, .inr hw, _, _, rfl, rfl, rfl, _, rfl, ?_⟩
                by_cases c5 : ns.length ≠ 5 + old.length + new.length
                · rw [if_pos c5] at q
                  refine ifT ?_ (ifT rfl (q H2 _ s12 rfl))
                  rw [dec_i, ln, tok_len, tok_len]
                  simp
                  omega
                · rw [if_neg c5] at q
                  refine ifF ?_ ?_
                  · rw [dec_i, ln, tok_len, tok_len]
                    simp
                    omega
                  refine ⟨_, rfl, _, _, rfl, .inr ho2, _, rfl, _, _, rfl, .inr hw, _, _, rfl, rfl, rfl, _, rfl, ?_⟩
                  by_cases c6 : old.length + new.length = 0
                  · rw [if_pos c6] at q
                    refine ifT ?_ (q H2 _ s12 rfl)
                    rw [dec_i, tok_len, tok_len]
                    simp
                    omega
                  · rw [if_neg c6] at q
                    refine ifF ?_ ?_
                    · rw [dec_i, tok_len, tok_len]
                      simp
                      omega
                    refine ⟨_, rfl, _, _, _, _, rfl, rfl, s12.seq hS, at_i (i := 1) (by omega) rfl, _, rfl, _, _, _, _, rfl, rfl, s12.seq hS, at_i (i := 2) (by omega) rfl, _, rfl, _, rfl, ?_⟩
                    exact make_step X (.hunk (at0 ns 1).toNat (at0 ns 2).toNat old new) ho2 hw rfl (int_nat c2) (Int.toNat_of_nonneg c3).symm rfl (fun H' v s r => q H' v (s12.trans s) r)
          · refine ifT (by show (!decide (at0 ns 2 ≤ 1000)) = true; rw [decide_eq_false c4]; rfl) ?_
            exact bad fun h => c4 h.2
        · refine ifF (decide_eq_false c3) ⟨_, rfl, ?_⟩
          exact ifT rfl (bad fun h => c3 h.1)
      · rw [if_neg c2] at q
        exact ifT (by simpa using c2) (ifT rfl (q H _ (Same.refl H) rfl))
theorem tok_nat {z : Int} (h : isTok z = true) : z = ((z.toNat : Nat) : Int) := by
  simp only [isTok, decide_eq_true_eq] at h
  omega
def sp_read_swap (X : Txt K mg) : Sp := fun vs H Q _ => ∃ (a : Addr) (ns : List Int), vs = [.ref a] ∧ SqL K H a (ns.map V.int) ∧ ns.length ≤ 1000 ∧ Post H Q (StepO K X.C_Step (swapOf ns))
theorem ok_read_swap (X : Txt K mg) : FnOk P w K mg base CX0 3 X.d_read_swap.f X.d_read_swap.fd ["numbers"] (sp_read_swap X) := by
  refine X.d_read_swap.F.ok sc_read_swap (fun vs H Q E h => ?_) (fun cdv A outer s0 H vs Q E hr h => ?_)
  · obtain ⟨a, ns, rfl, _⟩ := h
    rfl
  · obtain ⟨a, ns, rfl, hS, hl, q⟩ := h
    refine ⟨_, (pss_cons (ps_if (PW.pt (pw_or (pt_cmpR op_ne (pe_callB call_len_seq (by rfl) X.b_len (by decide +kernel) (pa_cons (pv 0) pa_nil)) pe_int (nomark _)) (pw_or (pt_not (pt_val (pe_call (ok_is_name X) (hr.mono (by decide)) rfl X.d_is_name.g X.d_is_name.F.kp X.d_is_name.b .nil pass0 (pa_cons (pe_ix ix_list (pv 0) pe_int (fun _ _ => rfl)) pa_nil)))) (pw_or (pt_not (pt_val (pe_call (ok_are_tokens X) (hr.mono (by decide)) rfl X.d_are_tokens.g X.d_are_tokens.F.kp X.d_are_tokens.b .nil pass0 (pa_cons (pe_slice sl_list (pv 0) (po_some pe_int) po_none) pa_nil)))) (pw_or1 (pt_cmpR op_eq (pe_ix ix_list (pv 0) pe_int (fun _ _ => rfl)) (pe_ix ix_list (pv 0) pe_int (fun _ _ => rfl)) (nomark _))))))) (pss_one (ps_ret pe_non)) pss_nil)
        (pss_one (ps_ret (pe_make X.mk_Step (ok_Step_init X) (hr.mono (by decide)) rfl X.g_Step X.m_Step_init.b .nil pass0 (pa_cons (pe_glob (v := .int 1) rfl X.c_SWAP.h ⟨_, rfl⟩) (pa_cons (pe_ix ix_list (pv 0) pe_int (fun _ _ => rfl)) (pa_cons pe_int (pa_cons (pe_tup (pa_cons (pe_ix ix_list (pv 0) pe_int (fun _ _ => rfl)) pa_nil)) (pa_cons (pe_tup (pa_cons (pe_ix ix_list (pv 0) pe_int (fun _ _ => rfl)) pa_nil)) (pa_cons pe_int pa_nil)))))))))), ?_⟩
    have ln : (ns.map V.int).length = ns.length := List.length_map ..
    unfold swapOf at q
    refine ⟨_, rfl, _, _, rfl, .inl hS, rfl, _, rfl, ?_⟩
    by_cases c1 : ns.length ≠ 4
    · rw [if_pos c1] at q
      refine ifT ?_ (ifT rfl (q H _ (Same.refl H) rfl))
      rw [dec_i, ln]
      simp
      omega
    · rw [if_neg c1] at q
      have l4 : ns.length = 4 := by omega
      refine ifF (by rw [dec_i, ln, l4]; rfl) ⟨_, rfl, _, _, _, _, rfl, rfl, hS, at_i (i := 1) (by omega) rfl, _, rfl, _, rfl, ?_⟩
      by_cases c2 : isNm (at0 ns 1) = true
      · rw [if_pos c2] at q
        refine ifF (by rw [c2]; rfl) ⟨_, rfl, _, rfl, _, _, rfl, hS, fun p1 n1 => ?_⟩
        rw [show (some (2 : Int)) = some ((2 : Nat) : Int) from rfl, cut_from, ← List.map_drop]
        refine alloc n1 fun H1 s1 e1 => ?_
        refine ⟨p1, ns.drop 2, rfl, .inl (SqL.of e1), (by rw [List.length_drop]; omega), fun H2 s2 => ⟨_, rfl, ?_⟩⟩
        have s12 := s1.trans s2
        by_cases c3 : (ns.drop 2).all isTok = true
        · rw [if_pos c3] at q
          refine ifF (by rw [c3]; rfl) ⟨_, rfl, _, _, _, _, rfl, rfl, s12.seq hS, at_i (i := 2) (by omega) rfl, _, rfl, _, _, _, _, rfl, rfl, s12.seq hS, at_i (i := 3) (by omega) rfl, rfl, _, rfl, ?_⟩
          rw [dec_i]
          by_cases c4 : at0 ns 2 = at0 ns 3
          · rw [if_pos c4] at q
            exact ifT (decide_eq_true c4) (q H2 _ s12 rfl)
          · rw [if_neg c4] at q
            refine ifF (decide_eq_false c4) ?_
            have t2 : isTok (at0 ns 2) = true := List.all_eq_true.mp c3 _ (by
              refine List.mem_of_getElem? (i := 0) ?_
              rw [List.getElem?_drop]
              simp [at0, l4])
            have t3 : isTok (at0 ns 3) = true := List.all_eq_true.mp c3 _ (by
              refine List.mem_of_getElem? (i := 1) ?_
              rw [List.getElem?_drop]
              simp [at0, l4])
            refine ⟨_, rfl, _, _, _, _, rfl, rfl, s12.seq hS, at_i (i := 1) (by omega) rfl, _, rfl, _, _, _, _, rfl, rfl, s12.seq hS, at_i (i := 2) (by omega) rfl, (by show 1 ≤ sizeLine; decide), fun p3 n3 => ?_⟩
            refine alloc n3 fun H3 s3 e3 => ?_
            have s13 := s12.trans s3
            refine ⟨_, rfl, _, _, _, _, rfl, rfl, s13.seq hS, at_i (i := 3) (by omega) rfl, (by show 1 ≤ sizeLine; decide), fun p4 n4 => ?_⟩
            refine alloc n4 fun H4 s4 e4 => ?_
            refine make_step X (.swap (at0 ns 1).toNat (at0 ns 2).toNat (at0 ns 3).toNat) ?_ ?_ rfl (int_nat c2) rfl rfl (fun H' v s r => q H' v ((s13.trans s4).trans s) r)
            · have := SqT.of (K := K) (s4 _ _ e3)
              rw [tok_nat t2] at this
              exact this
            · have := SqT.of (K := K) e4
              rw [tok_nat t3] at this
              exact this
        · rw [if_neg c3] at q
          exact ifT (by simpa using c3) (ifT rfl (q H2 _ s12 rfl))
      · rw [if_neg c2] at q
        exact ifT (by simpa using c2) (ifT rfl (q H _ (Same.refl H) rfl))
def sp_read_moved (X : Txt K mg) : Sp := fun vs H Q _ => ∃ (a : Addr) (ns : List Int), vs = [.ref a] ∧ SqL K H a (ns.map V.int) ∧ ns.length ≤ 1000 ∧ Post H Q (StepO K X.C_Step (moveOf ns))
theorem ok_read_moved (X : Txt K mg) : FnOk P w K mg base CX0 3 X.d_read_moved.f X.d_read_moved.fd ["numbers"] (sp_read_moved X) := by
  refine X.d_read_moved.F.ok sc_read_moved (fun vs H Q E h => ?_) (fun cdv A outer s0 H vs Q E hr h => ?_)
  · obtain ⟨a, ns, rfl, _⟩ := h
    rfl
  · obtain ⟨a, ns, rfl, hS, hl, q⟩ := h
    refine ⟨_, (pss_cons (ps_if (PW.pt (pw_or (pt_cmpR op_ne (pe_callB call_len_seq (by rfl) X.b_len (by decide +kernel) (pa_cons (pv 0) pa_nil)) pe_int (nomark _)) (pw_or (pt_not (pt_val (pe_call (ok_is_name X) (hr.mono (by decide)) rfl X.d_is_name.g X.d_is_name.F.kp X.d_is_name.b .nil pass0 (pa_cons (pe_ix ix_list (pv 0) pe_int (fun _ _ => rfl)) pa_nil)))) (pw_or (pt_not (pt_val (pe_call (ok_is_name X) (hr.mono (by decide)) rfl X.d_is_name.g X.d_is_name.F.kp X.d_is_name.b .nil pass0 (pa_cons (pe_ix ix_list (pv 0) pe_int (fun _ _ => rfl)) pa_nil)))) (pw_or1 (pt_cmpR op_eq (pe_ix ix_list (pv 0) pe_int (fun _ _ => rfl)) (pe_ix ix_list (pv 0) pe_int (fun _ _ => rfl)) (nomark _))))))) (pss_one (ps_ret pe_non)) pss_nil)
        (pss_one (ps_ret (pe_make X.mk_Step (ok_Step_init X) (hr.mono (by decide)) rfl X.g_Step X.m_Step_init.b .nil pass0 (pa_cons (pe_glob (v := .int 4) rfl X.c_MOVED.h ⟨_, rfl⟩) (pa_cons (pe_ix ix_list (pv 0) pe_int (fun _ _ => rfl)) (pa_cons pe_int (pa_cons (pe_tup pa_nil) (pa_cons (pe_tup pa_nil) (pa_cons (pe_ix ix_list (pv 0) pe_int (fun _ _ => rfl)) pa_nil)))))))))), ?_⟩
    have ln : (ns.map V.int).length = ns.length := List.length_map ..
    unfold moveOf at q
    refine ⟨_, rfl, _, _, rfl, .inl hS, rfl, _, rfl, ?_⟩
    by_cases c1 : ns.length ≠ 3
    · rw [if_pos c1] at q
      refine ifT ?_ (ifT rfl (q H _ (Same.refl H) rfl))
      rw [dec_i, ln]
      simp
      omega
    · rw [if_neg c1] at q
      have l4 : ns.length = 3 := by omega
      refine ifF (by rw [dec_i, ln, l4]; rfl) ⟨_, rfl, _, _, _, _, rfl, rfl, hS, at_i (i := 1) (by omega) rfl, _, rfl, _, rfl, ?_⟩
      by_cases c2 : isNm (at0 ns 1) = true
      · rw [if_pos c2] at q
        refine ifF (by rw [c2]; rfl) ⟨_, rfl, _, _, _, _, rfl, rfl, hS, at_i (i := 2) (by omega) rfl, _, rfl, _, rfl, ?_⟩
        by_cases c3 : isNm (at0 ns 2) = true
        · rw [if_pos c3] at q
          refine ifF (by rw [c3]; rfl) ⟨_, rfl, _, _, _, _, rfl, rfl, hS, at_i (i := 1) (by omega) rfl, _, rfl, _, _, _, _, rfl, rfl, hS, at_i (i := 2) (by omega) rfl, rfl, _, rfl, ?_⟩
          rw [dec_i]
          by_cases c4 : at0 ns 1 = at0 ns 2
          · rw [if_pos c4] at q
            exact ifT (decide_eq_true c4) (q H _ (Same.refl H) rfl)
          · rw [if_neg c4] at q
            refine ifF (decide_eq_false c4) ?_
            refine ⟨_, rfl, _, _, _, _, rfl, rfl, hS, at_i (i := 1) (by omega) rfl, Nat.zero_le _, fun p3 n3 => ?_⟩
            refine alloc n3 fun H3 s3 e3 => ?_
            refine ⟨Nat.zero_le _, fun p4 n4 => ?_⟩
            refine alloc n4 fun H4 s4 e4 => ?_
            have s14 := s3.trans s4
            refine ⟨_, rfl, _, _, _, _, rfl, rfl, s14.seq hS, at_i (i := 2) (by omega) rfl, ?_⟩
            exact make_step X (.move (at0 ns 1).toNat (at0 ns 2).toNat) (SqT.of (s4 _ _ e3)) (SqT.of e4) rfl (int_nat c2) rfl (int_nat c3) (fun H' v s r => q H' v (s14.trans s) r)
        · rw [if_neg c3] at q
          exact ifT (by simpa using c3) (ifT rfl (q H _ (Same.refl H) rfl))
      · rw [if_neg c2] at q
        exact ifT (by simpa using c2) (ifT rfl (q H _ (Same.refl H) rfl))
def sp_read_step (X : Txt K mg) : Sp := fun vs H Q _ => ∃ (a : Addr) (ns : List Int), vs = [.ref a] ∧ SqL K H a (ns.map V.int) ∧ ns.length ≤ 1000 ∧ Post H Q (StepO K X.C_Step (stepOf ns))
theorem ok_read_step (X : Txt K mg) : FnOk P w K mg base CX0 5 X.d_read_step.f X.d_read_step.fd ["numbers"] (sp_read_step X) := by
  refine X.d_read_step.F.ok sc_read_step (fun vs H Q E h => ?_) (fun cdv A outer s0 H vs Q E hr h => ?_)
  · obtain ⟨a, ns, rfl, _⟩ := h
    rfl
  · obtain ⟨a, ns, rfl, hS, hl, q⟩ := h
    refine ⟨_, (pss_cons (ps_if (pt_cmpR op_eq (pe_callB call_len_seq (by rfl) X.b_len (by decide +kernel) (pa_cons (pv 0) pa_nil)) pe_int (nomark _)) (pss_one (ps_ret pe_non)) pss_nil)
        (pss_cons (ps_if (pt_cmpR op_eq (pe_ix ix_list (pv 0) pe_int (fun _ _ => rfl)) (pe_glob (v := .int 0) rfl X.c_HUNK.h ⟨_, rfl⟩) (nomark _)) (pss_one (ps_ret (pe_call (ok_read_hunk X) (hr.mono (by decide)) rfl X.d_read_hunk.g X.d_read_hunk.F.kp X.d_read_hunk.b .nil pass0 (pa_cons (pv 0) pa_nil)))) pss_nil)
        (pss_cons (ps_if (pt_cmpR op_eq (pe_ix ix_list (pv 0) pe_int (fun _ _ => rfl)) (pe_glob (v := .int 1) rfl X.c_SWAP.h ⟨_, rfl⟩) (nomark _)) (pss_one (ps_ret (pe_call (ok_read_swap X) (hr.mono (by decide)) rfl X.d_read_swap.g X.d_read_swap.F.kp X.d_read_swap.b .nil pass0 (pa_cons (pv 0) pa_nil)))) pss_nil)
        (pss_cons (ps_if (pt_cmpR op_eq (pe_ix ix_list (pv 0) pe_int (fun _ _ => rfl)) (pe_glob (v := .int 4) rfl X.c_MOVED.h ⟨_, rfl⟩) (nomark _)) (pss_one (ps_ret (pe_call (ok_read_moved X) (hr.mono (by decide)) rfl X.d_read_moved.g X.d_read_moved.F.kp X.d_read_moved.b .nil pass0 (pa_cons (pv 0) pa_nil)))) pss_nil)
        (pss_cons (ps_if (PW.pt (pw_or (pt_cmpR op_notIn_seq (pe_ix ix_list (pv 0) pe_int (fun _ _ => rfl)) (pe_tup (pa_cons (pe_glob (v := .int 2) rfl X.c_ADDED.h ⟨_, rfl⟩) (pa_cons (pe_glob (v := .int 3) rfl X.c_REMOVED.h ⟨_, rfl⟩) pa_nil))) (by rfl)) (pw_or (pt_cmpR op_ne (pe_callB call_len_seq (by rfl) X.b_len (by decide +kernel) (pa_cons (pv 0) pa_nil)) pe_int (nomark _)) (pw_or1 (pt_not (pt_val (pe_call (ok_is_name X) (hr.mono (by decide)) rfl X.d_is_name.g X.d_is_name.F.kp X.d_is_name.b .nil pass0 (pa_cons (pe_ix ix_list (pv 0) pe_int (fun _ _ => rfl)) pa_nil)))))))) (pss_one (ps_ret pe_non)) pss_nil)
        (pss_one (ps_ret (pe_make X.mk_Step (ok_Step_init X) (hr.mono (by decide)) rfl X.g_Step X.m_Step_init.b .nil pass0 (pa_cons (pe_ix ix_list (pv 0) pe_int (fun _ _ => rfl)) (pa_cons (pe_ix ix_list (pv 0) pe_int (fun _ _ => rfl)) (pa_cons pe_int (pa_cons (pe_tup pa_nil) (pa_cons (pe_tup pa_nil) (pa_cons pe_int pa_nil)))))))))))))), ?_⟩
    have ln : (ns.map V.int).length = ns.length := List.length_map ..
    unfold stepOf at q
    refine ⟨_, rfl, _, _, rfl, .inl hS, rfl, _, rfl, ?_⟩
    rw [dec_i, ln]
    by_cases c1 : ns.length = 0
    · rw [if_pos c1] at q
      exact ifT (by rw [c1]; rfl) (q H _ (Same.refl H) rfl)
    · rw [if_neg c1] at q
      have a0 : atI (ns.map V.int) 0 = some (.int (at0 ns 0)) := at_i (i := 0) (by omega) rfl
      refine ifF (decide_eq_false (by omega)) ⟨_, rfl, _, _, _, _, rfl, rfl, hS, a0, rfl, _, rfl, ?_⟩
      rw [dec_i]
      by_cases c2 : at0 ns 0 = 0
      · rw [if_pos c2] at q
        exact ifT (decide_eq_true c2) ⟨_, rfl, a, ns, rfl, hS, hl, q⟩
      · rw [if_neg c2] at q
        refine ifF (decide_eq_false c2) ⟨_, rfl, _, _, _, _, rfl, rfl, hS, a0, rfl, _, rfl, ?_⟩
        rw [dec_i]
        by_cases c3 : at0 ns 0 = 1
        · rw [if_pos c3] at q
          exact ifT (decide_eq_true c3) ⟨_, rfl, a, ns, rfl, hS, hl, q⟩
        · rw [if_neg c3] at q
          refine ifF (decide_eq_false c3) ⟨_, rfl, _, _, _, _, rfl, rfl, hS, a0, rfl, _, rfl, ?_⟩
          rw [dec_i]
          by_cases c4 : at0 ns 0 = 4
          · rw [if_pos c4] at q
            exact ifT (decide_eq_true c4) ⟨_, rfl, a, ns, rfl, hS, hl, q⟩
          · rw [if_neg c4] at q
            refine ifF (decide_eq_false c4) ⟨_, rfl, _, _, _, _, rfl, rfl, hS, a0, (by show 2 ≤ sizeLine; decide), fun p1 n1 => ?_⟩
            refine alloc n1 fun H1 s1 e1 => ?_
            refine ⟨_, _, rfl, .inr (SqT.of e1), rfl, rfl, _, rfl, ?_⟩
            have ein : inV (.int (at0 ns 0)) [.int 2, .int 3] = decide (at0 ns 0 = 2 ∨ at0 ns 0 = 3) := by
              simp only [inV, List.any_cons, List.any_nil, eqV, Bool.or_false]
              rw [Bool.eq_iff_iff]
              simp
              omega
            by_cases c5 : at0 ns 0 = 2 ∨ at0 ns 0 = 3
            · rw [if_neg (not_not_intro c5)] at q
              refine ifF (by show (!inV (.int (at0 ns 0)) [.int 2, .int 3]) = false; rw [ein, decide_eq_true c5]; rfl) ?_
              refine ⟨_, rfl, _, _, rfl, .inl (s1.seq hS), rfl, _, rfl, ?_⟩
              rw [dec_i, ln]
              by_cases c6 : ns.length ≠ 2
              · rw [if_pos c6] at q
                exact ifT (by rw [decide_eq_false (by omega)]; rfl) (ifT rfl (q H1 _ s1 rfl))
              · rw [if_neg c6] at q
                have l2 : ns.length = 2 := by omega
                refine ifF (by rw [l2]; rfl) ⟨_, rfl, _, _, _, _, rfl, rfl, s1.seq hS, at_i (i := 1) (by omega) rfl, _, rfl, _, rfl, ?_⟩
                by_cases c7 : isNm (at0 ns 1) = true
                · rw [if_pos c7] at q
                  refine ifF (by rw [c7]; rfl) ⟨_, rfl, _, _, _, _, rfl, rfl, s1.seq hS, a0, _, rfl, _, _, _, _, rfl, rfl, s1.seq hS, at_i (i := 1) (by omega) rfl, Nat.zero_le _, fun p3 n3 => ?_⟩
                  refine alloc n3 fun H3 s3 e3 => ?_
                  refine ⟨Nat.zero_le _, fun p4 n4 => ?_⟩
                  refine alloc n4 fun H4 s4 e4 => ?_
                  have s14 := (s1.trans s3).trans s4
                  have h3 := SqT.of (K := K) (s4 _ _ e3)
                  have h4 := SqT.of (K := K) e4
                  by_cases c8 : at0 ns 0 = 2
                  · rw [if_pos c8] at q
                    exact make_step X (.add (at0 ns 1).toNat) h3 h4 c8 (int_nat c7) rfl rfl (fun H' v s r => q H' v (s14.trans s) r)
                  · rw [if_neg c8] at q
                    exact make_step X (.remove (at0 ns 1).toNat) h3 h4 (c5.resolve_left c8) (int_nat c7) rfl rfl (fun H' v s r => q H' v (s14.trans s) r)
                · rw [if_neg c7] at q
                  exact ifT (by simpa using c7) (q H1 _ s1 rfl)
            · rw [if_pos c5] at q
              refine ifT (by show (!inV (.int (at0 ns 0)) [.int 2, .int 3]) = true; rw [ein, decide_eq_false c5]; rfl) ?_
              exact ifT rfl (q H1 _ s1 rfl)
end
end Rw

/-! part RwTreeData -/
set_option Elab.async false
set_option linter.all false
set_option maxRecDepth 100000
set_option maxHeartbeats 4000000
namespace Rw
open PySem PySem.Spec PyProof.Rows L2
open VapatBase (Tokens)
/-! Trees in the heap. -/
open VapatBase (fileIn putFile dropFile applied appliedAll swapAll)
open RM (Srt)
abbrev Tr' := VapatBase.Tree
abbrev kI (n : Nat) : Key := .inl (n : Int)
theorem fi_iff {f : Nat} : ∀ {t : Tr'}, fileIn t f = none ↔ ∀ x ∈ t, x.1 ≠ f
  | [] => by simp [RM.fi_nil]
  | x :: t => by
    rw [RM.fi_cons]
    by_cases e : x.1 = f
    · simp [e]
    · rw [if_neg e, fi_iff (t := t)]
      simp [e]
/-- the files of a tree, in a dict -/
structure FilesAt (K : PySem.W.Frag) (H : Hp) (kvs : List (Key × V)) (t : Tr') : Prop where
  perm : (kvs.map (·.1)).Perm (t.map fun x => kI x.1)
  val : ∀ f c, fileIn t f = some c → ∃ a, valV kvs (kI f) = some (.ref a) ∧ SqT K H a (tok c)
section
variable {K : PySem.W.Frag} {H H' : Hp} {kvs : List (Key × V)} {t : Tr'}
theorem FilesAt.same (h : FilesAt K H kvs t) (s : Same H H') : FilesAt K H' kvs t := ⟨h.perm, fun f c e => by
  obtain ⟨a, h1, h2⟩ := h.val f c e
  exact ⟨a, h1, sqT_same s h2⟩⟩
theorem FilesAt.none (h : FilesAt K H kvs t) {f : Nat} (e : fileIn t f = Option.none) : valV kvs (kI f) = Option.none := by
  cases q : valV kvs (kI f) with
  | none => rfl
  | some v =>
    have m := h.perm.mem_iff.mp (valV_in q)
    obtain ⟨x, hx, ex⟩ := List.mem_map.mp m
    have : x.1 = f := by
      have := Sum.inl.inj ex
      omega
    exact (fi_iff.mp e x hx this).elim
theorem FilesAt.isSome (h : FilesAt K H kvs t) (f : Nat) : (valV kvs (kI f)).isSome = (fileIn t f).isSome := by
  cases e : fileIn t f with
  | none => rw [h.none e]; rfl
  | some c =>
    obtain ⟨a, h1, _⟩ := h.val f c e
    rw [h1]
    rfl
theorem FilesAt.len (h : FilesAt K H kvs t) : kvs.length = t.length := by
  have := h.perm.length_eq
  rw [List.length_map, List.length_map] at this
  exact this
theorem keys_nodup (h : Srt t) : (t.map fun x => kI x.1).Nodup := by
  unfold Srt at h
  rw [List.nodup_iff_pairwise_ne, List.pairwise_map]
  exact h.imp fun hlt e => by
    have := Sum.inl.inj e
    omega
theorem FilesAt.nodup (h : FilesAt K H kvs t) (s : Srt t) : (kvs.map (·.1)).Nodup := h.perm.nodup_iff.mpr (keys_nodup s)
theorem put_perm_new {f : Nat} {c : Tokens} : ∀ {t : Tr'}, fileIn t f = Option.none → ((putFile f c t).map fun x => kI x.1).Perm (kI f :: t.map fun x => kI x.1)
  | [], _ => .refl _
  | x :: t, h => by
    rw [RM.fi_cons] at h
    by_cases e : x.1 = f
    · rw [if_pos e] at h
      cases h
    · rw [if_neg e] at h
      simp only [putFile]
      split
      · exact .refl _
      · split
        · rename_i e2
          exact (e e2.symm).elim
        · exact ((put_perm_new h).cons _).trans (List.Perm.swap ..)
theorem put_keys_old {f : Nat} {c d : Tokens} : ∀ {t : Tr'}, Srt t → fileIn t f = some d → (putFile f c t).map (fun x => kI x.1) = t.map fun x => kI x.1
  | [], _, h => by cases h
  | x :: t, s, h => by
    unfold Srt at s
    rw [List.pairwise_cons] at s
    rw [RM.fi_cons] at h
    simp only [putFile]
    by_cases e : x.1 = f
    · rw [if_neg (by omega), if_pos e.symm]
      simp [e]
    · rw [if_neg e] at h
      have := s.1 _ (RM.fi_mem h)
      simp only at this
      rw [if_neg (by omega), if_neg (fun q => e q.symm)]
      simp only [List.map_cons, put_keys_old s.2 h]
theorem FilesAt.put (h : FilesAt K H kvs t) (s : Srt t) {f : Nat} {c : Tokens} {a : Addr} (ha : SqT K H a (tok c)) : FilesAt K H (putK kvs (kI f) (.ref a)) (putFile f c t) := by
  refine ⟨?_, fun g d e => ?_⟩
  · cases q : fileIn t f with
    | none =>
      rw [putK_new _ (h.none q), List.map_append]
      refine List.Perm.trans ?_ (put_perm_new q).symm
      exact (List.perm_append_comm).trans (h.perm.cons _)
    | some d =>
      rw [put_keys_old s q]
      obtain ⟨b, hb, _⟩ := h.val f d q
      have : (kvs.any fun kv => decide (kv.1 = kI f)) = true := by
        rw [valV_any, hb]
        rfl
      have e : (putK kvs (kI f) (.ref a)).map (·.1) = kvs.map (·.1) := by
        unfold putK
        rw [if_pos this, List.map_map]
        refine List.map_congr_left fun x _ => ?_
        simp only [Function.comp]
        split <;> rfl
      rw [e]
      exact h.perm
  · rw [RM.fi_put] at e
    rw [valV_put]
    by_cases q : g = f
    · rw [if_pos q] at e
      cases e
      rw [if_pos (by rw [q])]
      exact ⟨a, rfl, ha⟩
    · rw [if_neg q] at e
      rw [if_neg (fun z => q (by have := Sum.inl.inj z; omega))]
      exact h.val g d e
theorem valV_drop (kvs : List (Key × V)) (k j : Key) (n : j ≠ k) : valV (dropK kvs k) j = valV kvs j := by
  induction kvs with
  | nil => rfl
  | cons p r ih =>
    by_cases e : p.1 = k
    · rw [dropK_pos e, ih, valV_neg (fun z => n (z.symm.trans e))]
    · rw [dropK_neg e]
      by_cases e2 : p.1 = j
      · rw [valV_pos e2, valV_pos e2]
      · rw [valV_neg e2, valV_neg e2, ih]
theorem FilesAt.drop (h : FilesAt K H kvs t) (f : Nat) : FilesAt K H (dropK kvs (kI f)) (dropFile f t) := by
  refine ⟨?_, fun g d e => ?_⟩
  · have e1 : (dropK kvs (kI f)).map (·.1) = (kvs.map (·.1)).filter fun k => decide (k ≠ kI f) := by
      unfold dropK
      rw [List.filter_map]
      rfl
    have e2 : (dropFile f t).map (fun x => kI x.1) = (t.map fun x => kI x.1).filter fun k => decide (k ≠ kI f) := by
      unfold dropFile
      rw [List.filter_map]
      congr 1
      refine List.filter_congr fun x _ => ?_
      simp only [Function.comp]
      rw [Bool.eq_iff_iff]
      simp
      omega
    rw [e1, e2]
    exact h.perm.filter _
  · rw [RM.fi_drop] at e
    by_cases q : g = f
    · rw [if_pos q] at e
      cases e
    · rw [if_neg q] at e
      rw [valV_drop _ _ _ (fun z => q (by have := Sum.inl.inj z; omega))]
      exact h.val g d e
theorem merge_nodup : ∀ (more kvs : List (Key × V)), ((kvs ++ more).map (·.1)).Nodup → mergeK kvs more = kvs ++ more
  | [], kvs, _ => (List.append_nil _).symm
  | p :: r, kvs, h => by
    have n : valV kvs p.1 = Option.none := by
      cases q : valV kvs p.1 with
      | none => rfl
      | some v =>
        rw [List.map_append] at h
        have := (List.nodup_append.mp h).2.2 _ (valV_in q) p.1 (by simp)
        exact (this rfl).elim
    show mergeK (putK kvs p.1 p.2) r = _
    rw [putK_new _ n, merge_nodup r _ (by rw [List.append_assoc]; exact h), List.append_assoc]
    rfl
/-- a tree stands at a -/
structure TreeIn (K : PySem.W.Frag) (C : Addr) (H : Hp) (a : Addr) (t : Tr') (dx d : Addr) (kvs : List (Key × V)) : Prop where
  ins : H a = some (.ins C dx [("files", .ref d)])
  dic : H d = some (.dK kvs)
  files : FilesAt K H kvs t
def TreeAt (K : PySem.W.Frag) (C : Addr) (H : Hp) (a : Addr) (t : Tr') : Prop := ∃ dx d kvs, TreeIn K C H a t dx d kvs
theorem TreeIn.same {C a dx d : Addr} (h : TreeIn K C H a t dx d kvs) (s : Same H H') : TreeIn K C H' a t dx d kvs := ⟨s _ _ h.ins, s _ _ h.dic, h.files.same s⟩
theorem TreeAt.same {C a : Addr} (h : TreeAt K C H a t) (s : Same H H') : TreeAt K C H' a t := by
  obtain ⟨dx, d, kvs, h⟩ := h
  exact ⟨dx, d, kvs, h.same s⟩
end
def TreeR (K : PySem.W.Frag) (C : Addr) (t : Tr') (H : Hp) (v : V) : Prop := ∃ a, v = .ref a ∧ TreeAt K C H a t
theorem fT_files {d : Addr} : ([("files", V.ref d)] : List (Str × V)).lookup ("files" : Str) = some (.ref d) := lk_here
theorem fT_no {d : Addr} {m : Str} (h : (m == ("files" : Str)) = false) : ([("files", V.ref d)] : List (Str × V)).lookup m = none := (lk_past h).trans lk_nil
section
variable {K : PySem.W.Frag} {mg : Str → Option Value} {σ : L2.St} {H : Hp} {Q : V → Prop} {a dx d : Addr} {t : Tr'} {kvs : List (Key × V)} {i : Nat}
theorem r_files (X : Txt K mg) (h : TreeIn K X.C_Tree H a t dx d kvs) (q : Q (.ref d)) (e : σ[i]? = some (some (.ref a)) := by rfl) :
    ∃ u, σ[i]? = some (some u) ∧ ∃ b C d fs v, u = .ref b ∧ H b = some (.ins C d fs) ∧ Cls K C ∧ NoAttr K C "files" ∧ fs.lookup ("files" : Str) = some v ∧ Q v := ⟨_, e, a, _, dx, _, _, rfl, h.ins, X.cl_Tree, X.na_Tree_files, fT_files, q⟩
theorem r_tmeth {m : Str} {R : V → Prop} {C : Addr} (h : TreeIn K C H a t dx d kvs) (q : R (.ref a)) (e : σ[i]? = some (some (.ref a)) := by rfl) (n : (m == ("files" : Str)) = false := by decide +kernel) :
    ∃ u, σ[i]? = some (some u) ∧ ∃ b d fs, u = .ref b ∧ H b = some (.ins C d fs) ∧ fs.lookup m = none ∧ R u := ⟨_, e, a, dx, _, rfl, h.ins, fT_no n, q⟩
end
theorem pe_dgetA {X : Cx} {o i : Expr} {td ty : TE} {pos : Pos} (ho : PE X o td) (hi : PE X i ty) (hs : NoSl i) (hu : X.A.units + 1 < cLine) : PE X (.Subscript o i pos) (tDGet td ty) := pe_dget hu ho hi hs
/-! ### tuples put together, cut -/
section
variable {K : PySem.W.Frag}
theorem cat_t {H : Hp} {q p : Addr} {xs ys : List V} {Q : VK} (hq : SqT K H q xs) (hp : SqT K H p ys) (hl : xs.length + ys.length ≤ 100000) (k : ∀ H' r, Same H H' → SqT K H' r (xs ++ ys) → Q (.ref r) H') : rCatA K (.ref q) (.ref p) H Q := by
  refine ⟨q, p, xs, ys, rfl, rfl, hq, hp, line_le hl, fun e => ?_, fun _ e => ?_, fun _ _ r hr => k _ r (same_upd hr) (SqT.of upd_same)⟩
  · subst e
    exact k H p (Same.refl H) hp
  · subst e
    refine k H q (Same.refl H) ?_
    rw [List.append_nil]
    exact hq
theorem cut_t {H : Hp} {q : Addr} {xs : List V} {lo hi : Option Int} {Q : VK} (hq : SqT K H q xs) (k : ∀ H' r, Same H H' → SqT K H' r (cutV xs lo hi) → Q (.ref r) H') : rSlA K (.ref q) lo hi H Q := by
  refine ⟨q, xs, rfl, hq, fun e => ?_, fun _ r hr => k _ r (same_upd hr) (SqT.of upd_same)⟩
  refine k H q (Same.refl H) ?_
  have : cutV xs lo hi = xs := by
    unfold cutV
    rw [e.1, e.2, List.drop_zero, Nat.sub_zero, List.take_length]
  rw [this]
  exact hq
end
/-! ### tuples compared -/
def intsD (l : List Int) : List PyData := l.map PyData.int
theorem dpAll_ints {K : PySem.W.Frag} {H : Hp} : ∀ (l : List Int), DpAll K H (l.map V.int) (intsD l)
  | [] => .nil
  | z :: l => .cons (.int z) (dpAll_ints l)
theorem ints_depth : ∀ (l : List Int), PyData.depthAll (intsD l) = 0
  | [] => rfl
  | z :: l => by
    show max (PyData.depth (.int z)) (PyData.depthAll (intsD l)) = 0
    rw [ints_depth l]
    rfl
theorem ints_lay : ∀ (l : List Int), PyData.canLayAll0 (intsD l) = true
  | [] => rfl
  | z :: l => by
    show (PyData.canLay0 (.int z) && PyData.canLayAll0 (intsD l)) = true
    rw [ints_lay l]
    rfl
theorem ints_eqv : ∀ (l m : List Int), PyData.eqvAll (intsD l) (intsD m) = decide (l = m)
  | [], [] => rfl
  | [], _ :: _ => rfl
  | _ :: _, [] => rfl
  | z :: l, y :: m => by
    show (PyData.eqv (.int z) (.int y) && PyData.eqvAll (intsD l) (intsD m)) = _
    rw [ints_eqv l m]
    show ((z == y) && decide (l = m)) = _
    rw [Bool.eq_iff_iff]
    simp
theorem ints_shaped (l : List Int) : SeqAt.shaped (.tuple (intsD l)) = true := by
  show (PyData.canLayAll0 (intsD l) && decide (PyData.depthAll (intsD l) + 1 ≤ 64)) = true
  rw [ints_lay, ints_depth]
  rfl
theorem eq_t {K : PySem.W.Frag} {H : Hp} {a b : Addr} {l m : List Int} {Q : VK} (ha : SqT K H a (l.map V.int)) (hb : SqT K H b (m.map V.int)) (q : Q (.bl (decide (l = m))) H) : rEqD K (.ref a) (.ref b) H Q :=
  ⟨_, _, .tup ha (dpAll_ints l), .tup hb (dpAll_ints m), ints_shaped l, ints_shaped m, by
    show Q (.bl (PyData.eqvAll (intsD l) (intsD m))) H
    rw [ints_eqv]
    exact q⟩
end Rw

/-! part RwTree -/
set_option Elab.async false
set_option linter.all false
set_option maxRecDepth 100000
set_option maxHeartbeats 4000000
namespace Rw
open PySem PySem.Spec PyProof.Rows L2
open VapatBase (Tokens)
/-! Trees walked. -/
open VapatBase (fileIn putFile dropFile applied appliedAll swapAll)
open RM (Srt)
/-- a tree within bounds -/
structure TOk (n : Nat) (t : Tr') : Prop where
  srt : Srt t
  nm : ∀ x ∈ t, x.1 < 10
  tk : ∀ x ∈ t, x.2.length ≤ n
theorem TOk.mono {n m : Nat} {t : Tr'} (h : TOk n t) (e : n ≤ m) : TOk m t := ⟨h.srt, h.nm, fun x hx => Nat.le_trans (h.tk x hx) e⟩
theorem srt_len : ∀ (n k : Nat) (t : Tr'), Srt t → (∀ x ∈ t, k ≤ x.1 ∧ x.1 < k + n) → t.length ≤ n
  | n, k, [], _, _ => Nat.zero_le _
  | 0, k, x :: t, _, h => by
    have := h x List.mem_cons_self
    omega
  | n + 1, k, x :: t, s, h => by
    unfold Srt at s
    rw [List.pairwise_cons] at s
    have hx := h x List.mem_cons_self
    have ih := srt_len n (k + 1) t s.2 (fun y hy => by
      have h1 := s.1 y hy
      have h2 := h y (List.mem_cons_of_mem _ hy)
      omega)
    rw [List.length_cons]
    omega
theorem TOk.len {n : Nat} {t : Tr'} (h : TOk n t) : t.length ≤ 10 := srt_len 10 0 t h.srt fun x hx => ⟨Nat.zero_le _, by have := h.nm x hx; omega⟩
theorem TOk.file {n : Nat} {t : Tr'} (h : TOk n t) {f : Nat} {c : Tokens} (e : fileIn t f = some c) : c.length ≤ n := h.tk _ (RM.fi_mem e)
theorem TOk.put {n m : Nat} {t : Tr'} (h : TOk n t) {f : Nat} {c : Tokens} (hf : f < 10) (hc : c.length ≤ m) (e : n ≤ m) : TOk m (putFile f c t) := by
  have : ∀ x ∈ putFile f c t, x = (f, c) ∨ x ∈ t := by
    intro x hx
    clear hc e
    induction t with
    | nil =>
      simp only [putFile, List.mem_singleton] at hx
      exact .inl hx
    | cons y t ih =>
      have ht : TOk n t := ⟨(List.pairwise_cons.mp h.srt).2, fun z hz => h.nm z (List.mem_cons_of_mem _ hz), fun z hz => h.tk z (List.mem_cons_of_mem _ hz)⟩
      simp only [putFile] at hx
      split at hx
      · rcases List.mem_cons.mp hx with rfl | hx
        · exact .inl rfl
        · exact .inr hx
      · split at hx
        · rcases List.mem_cons.mp hx with rfl | hx
          · exact .inl rfl
          · exact .inr (List.mem_cons_of_mem _ hx)
        · rcases List.mem_cons.mp hx with rfl | hx
          · exact .inr List.mem_cons_self
          · rcases ih ht hx with e | e
            · exact .inl e
            · exact .inr (List.mem_cons_of_mem _ e)
  refine ⟨RM.srt_put _ _ h.srt, fun x hx => ?_, fun x hx => ?_⟩
  · rcases this x hx with rfl | hx
    · exact hf
    · exact h.nm x hx
  · rcases this x hx with rfl | hx
    · exact hc
    · exact Nat.le_trans (h.tk x hx) e
theorem TOk.drop {n : Nat} {t : Tr'} (h : TOk n t) (f : Nat) : TOk n (dropFile f t) := ⟨RM.srt_drop _ h.srt, fun x hx => h.nm x (List.mem_filter.mp hx).1, fun x hx => h.tk x (List.mem_filter.mp hx).1⟩
theorem TOk.ap {n : Nat} {t u : Tr'} (h : TOk n t) {s : St'} (ok : Okk s) (e : applied t s = some u) : TOk (n + 8) u := by
  cases s with
  | hunk f a o w =>
    obtain ⟨c, d, e1, e2, rfl⟩ := RM.ap_i_some (b := .h a o w) e
    obtain ⟨l, r, rfl, _, rfl⟩ := RM.spl_iff.mp e2
    have := h.file e1
    simp only [List.length_append] at this
    refine h.put ok.1 ?_ (by omega)
    have := ok.2.2
    simp only [List.length_append]
    omega
  | swap f x y =>
    obtain ⟨c, d, e1, e2, rfl⟩ := RM.ap_i_some (b := .s x y) e
    have := h.file e1
    have e3 : swapAll x y c = d := Option.some.inj e2
    subst e3
    exact h.put ok (by rw [RM.sw_len]; omega) (by omega)
  | add f =>
    rw [show VapatBase.Step.add f = RM.rig true f from rfl, RM.ap_r] at e
    simp only [if_true] at e
    split at e
    · cases e
      exact h.put ok (Nat.zero_le _) (by omega)
    · cases e
  | remove f =>
    rw [show VapatBase.Step.remove f = RM.rig false f from rfl, RM.ap_r] at e
    simp only [Bool.false_eq_true, if_false] at e
    split at e
    · cases e
      exact (h.drop f).mono (by omega)
    · cases e
  | move f g =>
    rw [RM.ap_m] at e
    split at e
    · cases q : fileIn t f with
      | none => rw [q] at e; cases e
      | some c =>
        rw [q] at e
        cases e
        have := h.file q
        exact (h.drop f).put ok.2 (by omega) (by omega)
    · cases e
section
variable {P : Program} {w : World} {K : PySem.W.Frag} {mg : Str → Option Value} {base : Heap}
def sp_swapped (X : Txt K mg) : Sp := fun vs H Q _ => ∃ (a : Addr) (x y : Nat) (l : Tokens), vs = [.ref a, vN x, vN y] ∧ SqT K H a (tok l) ∧ l.length ≤ 10000 ∧ ∀ (H' : Hp) (b : Addr), Same H H' → SqT K H' b (tok (swapAll x y l)) → Q (.ref b) H'
theorem tok_get {l : Tokens} {i : Nat} {y : V} (hi : (tok l)[i]? = some y) : ∃ z, l[i]? = some z ∧ y = vN z := by
  unfold tok at hi
  rw [List.getElem?_map] at hi
  cases e : l[i]? with
  | none => rw [e] at hi; cases hi
  | some z => rw [e] at hi; exact ⟨z, rfl, (Option.some.inj hi).symm⟩
theorem ok_swapped (X : Txt K mg) : FnOk P w K mg base CX0 1 X.d_swapped.f X.d_swapped.fd ["tokens", "one", "other"] (sp_swapped X) := by
  refine X.d_swapped.F.ok sc_swapped (fun vs H Q E h => ?_) (fun cdv A outer s0 H vs Q E hr h => ?_)
  · obtain ⟨a, x, y, l, rfl, _⟩ := h
    rfl
  · obtain ⟨a, x, y, l, rfl, hS, hl, q⟩ := h
    refine ⟨_, (pss_cons (ps_set (i := 3) sc_swapped.nd rfl (.inl rfl) (pe_tup pa_nil))
        (pss_cons (ps_for PassesOwn.never rfl (pi_tup (pv 0)) (pg_name (i := 4) sc_swapped.nd rfl (.inl rfl)) (pss_one (ps_if (pt_cmpR op_eq (pv 4) (pv 1) (nomark _)) (pss_one (ps_set (i := 3) sc_swapped.nd rfl (.inl rfl) (pe_op op_catA (pv 3) (pe_tup (pa_cons (pv 2) pa_nil))))) (pss_one (ps_if (pt_cmpR op_eq (pv 4) (pv 2) (nomark _)) (pss_one (ps_set (i := 3) sc_swapped.nd rfl (.inl rfl) (pe_op op_catA (pv 3) (pe_tup (pa_cons (pv 1) pa_nil))))) (pss_one (ps_set (i := 3) sc_swapped.nd rfl (.inl rfl) (pe_op op_catA (pv 3) (pe_tup (pa_cons (pv 4) pa_nil))))))))))
        (pss_one (ps_ret (pv 3))))), ?_⟩
    refine ⟨Nat.zero_le _, fun p0 n0 => ?_⟩
    refine alloc n0 fun H0 s0 e0 => ?_
    refine ⟨_, rfl, a, rfl, ⟨_, sqT_same s0 hS⟩, for_it walk_tup (fun i σ H' => ∃ (r : Addr) (v : Option V), σ = [some (.ref a), some (vN x), some (vN y), some (.ref r), v] ∧ Same H H' ∧ SqT K H' r (tok (swapAll x y (l.take i))))
      ⟨p0, none, rfl, s0, SqT.of e0⟩ (fun i σ H' _ ⟨_, _, _, s1, _⟩ => sqT_same s1 hS) ?_ ?_⟩
    · rintro i u σ H1 H2 hi ⟨r, v, rfl, s1, hr⟩ ⟨rfl, hu⟩
      obtain ⟨z, hz, rfl⟩ := tok_get hu
      have hlt := (List.getElem?_eq_some_iff.mp hz).1
      have et : tok (swapAll x y (l.take (i + 1))) = tok (swapAll x y (l.take i)) ++ [vN (VapatBase.swapToken x y z)] := by
        rw [RM.take_more hz]
        simp [tok, swapAll]
      have el : (tok (swapAll x y (l.take i))).length + 1 ≤ 100000 := by
        rw [tok_len, RM.sw_len, List.length_take]
        omega
      refine ⟨_, rfl, _, rfl, rfl, _, rfl, ?_⟩
      rw [dec_i]
      by_cases c1 : (z : Int) = (x : Int)
      · have c1' : z = x := by omega
        refine ifT (decide_eq_true c1) ⟨_, rfl, _, rfl, (by show 1 ≤ sizeLine; decide), fun p1 n1 => ?_⟩
        refine alloc n1 fun H3 s3 e3 => ?_
        refine cat_t (sqT_same s3 hr) (SqT.of e3) el fun H4 r4 s4 h4 => ?_
        refine ⟨r4, some (vN z), rfl, (s1.trans s3).trans s4, ?_⟩
        rw [et, show VapatBase.swapToken x y z = y from if_pos c1']
        exact h4
      · have c1' : ¬ z = x := by omega
        refine ifF (decide_eq_false c1) ⟨_, rfl, _, rfl, rfl, _, rfl, ?_⟩
        rw [dec_i]
        by_cases c2 : (z : Int) = (y : Int)
        · have c2' : z = y := by omega
          refine ifT (decide_eq_true c2) ⟨_, rfl, _, rfl, (by show 1 ≤ sizeLine; decide), fun p1 n1 => ?_⟩
          refine alloc n1 fun H3 s3 e3 => ?_
          refine cat_t (sqT_same s3 hr) (SqT.of e3) el fun H4 r4 s4 h4 => ?_
          refine ⟨r4, some (vN z), rfl, (s1.trans s3).trans s4, ?_⟩
          rw [et, show VapatBase.swapToken x y z = x from (if_neg c1').trans (if_pos c2')]
          exact h4
        · have c2' : ¬ z = y := by omega
          refine ifF (decide_eq_false c2) ⟨_, rfl, _, rfl, (by show 1 ≤ sizeLine; decide), fun p1 n1 => ?_⟩
          refine alloc n1 fun H3 s3 e3 => ?_
          refine cat_t (sqT_same s3 hr) (SqT.of e3) el fun H4 r4 s4 h4 => ?_
          refine ⟨r4, some (vN z), rfl, (s1.trans s3).trans s4, ?_⟩
          rw [et, show VapatBase.swapToken x y z = z from (if_neg c1').trans (if_neg c2')]
          exact h4
    · rintro σ H1 ⟨r, v, rfl, s1, hr⟩
      rw [tok_len, List.take_length] at hr
      exact ⟨_, rfl, q H1 r s1 hr⟩
def sp_Tree_init (X : Txt K mg) : Sp := fun vs H Q _ => ∃ (p dx d : Addr), vs = [.ref p, .ref d] ∧ H p = some (.ins X.C_Tree dx []) ∧ ∀ H' : Hp, Off p H H' → H' p = some (.ins X.C_Tree dx [("files", .ref d)]) → Q .non H'
theorem ok_Tree_init (X : Txt K mg) : FnOk P w K mg base CX0 1 X.m_Tree_init.f X.m_Tree_init.fd ["self", "files"] (sp_Tree_init X) := by
  refine X.m_Tree_init.F.ok sc_Tree_init (fun vs H Q E h => ?_) (fun cdv A outer s0 H vs Q E hr h => ?_)
  · obtain ⟨p, dx, d, rfl, _⟩ := h
    rfl
  · obtain ⟨p, dx, d, rfl, hp, q⟩ := h
    refine ⟨_, (pss_one (ps_fld (pv 0) (pv 1) rfl)), ?_⟩
    refine ⟨_, rfl, _, rfl, p, _, dx, _, rfl, hp, X.cl_Tree, X.na_Tree_files, (by show 0 < 1000; decide), ?_⟩
    exact q _ Off.upd upd_same
theorem make_tree (X : Txt K mg) {H1 : Hp} {Q : VK} {d : Addr} {kvs : List (Key × V)} {t : Tr'} (hd : H1 d = some (.dK kvs)) (F : FilesAt K H1 kvs t) (q : Post H1 Q (TreeR K X.C_Tree t)) :
    ∀ x dx, H1 x = none → H1 dx = none → dx ≠ x → sp_Tree_init X (.ref x :: ([.ref d] ++ [])) (upd (upd H1 dx (.own x)) x (.ins X.C_Tree dx [])) (fun v H2 => v = .non ∧ Q (.ref x) H2) E0 := by
  intro x dx nx nd ne
  refine ⟨x, dx, d, rfl, upd_same, fun H' off e => ⟨rfl, ?_⟩⟩
  have sm : Same H1 H' := Same.made' nx nd off
  exact q H' _ sm ⟨x, rfl, dx, d, kvs, e, sm _ _ hd, F.same sm⟩
def sp_Tree_has (X : Txt K mg) : Sp := fun vs H Q _ => ∃ (a : Addr) (f : Nat) (t : Tr'), vs = [.ref a, vN f] ∧ TreeAt K X.C_Tree H a t ∧ Q (.bl (fileIn t f).isSome) H
theorem ok_Tree_has (X : Txt K mg) : FnOk P w K mg base CX0 1 X.m_Tree_has.f X.m_Tree_has.fd ["self", "name"] (sp_Tree_has X) := by
  refine X.m_Tree_has.F.ok sc_Tree_has (fun vs H Q E h => ?_) (fun cdv A outer s0 H vs Q E hr h => ?_)
  · obtain ⟨a, f, t, rfl, _⟩ := h
    rfl
  · obtain ⟨a, f, t, rfl, ⟨dx, d, kvs, ht⟩, q⟩ := h
    refine ⟨_, (pss_one (ps_ret (pe_cmp (pc_din (hu_of hr) (pv 1) (pe_fld (pv 0) rfl))))), ?_⟩
    refine ⟨_, rfl, ?_⟩
    refine r_files X ht ?_
    refine ⟨d, _, rfl, DGet.k (k := kI f) ht.dic, ?_⟩
    rw [ht.files.isSome]
    exact q
def sp_Tree_tokens (X : Txt K mg) : Sp := fun vs H Q _ => ∃ (a : Addr) (f : Nat) (t : Tr') (c : Tokens), vs = [.ref a, vN f] ∧ TreeAt K X.C_Tree H a t ∧ fileIn t f = some c ∧ ∀ b, SqT K H b (tok c) → Q (.ref b) H
theorem ok_Tree_tokens (X : Txt K mg) : FnOk P w K mg base CX0 1 X.m_Tree_tokens.f X.m_Tree_tokens.fd ["self", "name"] (sp_Tree_tokens X) := by
  refine X.m_Tree_tokens.F.ok sc_Tree_tokens (fun vs H Q E h => ?_) (fun cdv A outer s0 H vs Q E hr h => ?_)
  · obtain ⟨a, f, t, c, rfl, _⟩ := h
    rfl
  · obtain ⟨a, f, t, c, rfl, ⟨dx, d, kvs, ht⟩, e, q⟩ := h
    refine ⟨_, (pss_one (ps_ret (pe_dgetA (pe_fld (pv 0) rfl) (pv 1) (fun _ _ => rfl) (hu_of hr)))), ?_⟩
    obtain ⟨b, hb, hc⟩ := ht.files.val f c e
    refine r_files X ht ?_
    refine ⟨_, rfl, d, .ref b, rfl, ?_, q b hc⟩
    rw [← hb]
    exact DGet.k (k := kI f) ht.dic
end
end Rw

/-! part RwTree2 -/
set_option Elab.async false
set_option linter.all false
set_option maxRecDepth 100000
set_option maxHeartbeats 4000000
namespace Rw
open PySem PySem.Spec PyProof.Rows L2
open VapatBase (Tokens)
/-! Trees walked: fits, with a file, without one, applied. -/
open VapatBase (fileIn putFile dropFile applied appliedAll swapAll)
open RM (Srt)
theorem valV_get : ∀ {kvs : List (Key × V)} {i : Nat} {k : Key} {v : V}, (kvs.map (·.1)).Nodup → kvs[i]? = some (k, v) → valV kvs k = some v
  | [], i, k, v, _, h => by simp at h
  | p :: r, 0, k, v, _, h => by
    simp at h
    subst h
    exact valV_pos rfl
  | p :: r, i + 1, k, v, n, h => by
    simp at h
    rw [List.map_cons, List.nodup_cons] at n
    have m : k ∈ r.map (·.1) := List.mem_map.mpr ⟨_, List.mem_of_getElem? h, rfl⟩
    rw [valV_neg (fun e => n.1 (e ▸ m))]
    exact valV_get n.2 h
theorem FilesAt.keyN {K : PySem.W.Frag} {H : Hp} {kvs : List (Key × V)} {t : Tr'} (h : FilesAt K H kvs t) {i : Nat} {k : Key} {v : V} (e : kvs[i]? = some (k, v)) : ∃ n : Nat, k = kI n := by
  have m : k ∈ kvs.map (·.1) := List.mem_map.mpr ⟨_, List.mem_of_getElem? e, rfl⟩
  obtain ⟨x, _, ex⟩ := List.mem_map.mp (h.perm.mem_iff.mp m)
  exact ⟨x.1, ex.symm⟩
theorem paired_of {α β : Type} {R : α → β → Prop} {l : List α} {m : List β} (h : Two R l m) : Paired R l m := by
  induction h with
  | nil => exact .nil
  | cons r _ ih => exact .cons r ih
theorem drop_more {kvs : List (Key × V)} {i : Nat} {k j : Key} {v : V} (h : kvs[i]? = some (k, v)) : dropK (kvs.take (i + 1)) j = dropK (kvs.take i) j ++ (if k = j then [] else [(k, v)]) := by
  unfold dropK
  rw [RM.take_more h, List.filter_append]
  congr 1
  rw [List.filter_cons]
  by_cases e : k = j <;> simp [e]
section
variable {P : Program} {w : World} {K : PySem.W.Frag} {mg : Str → Option Value} {base : Heap}
def sp_Tree_fits_hunk (X : Txt K mg) : Sp := fun vs H Q _ => ∃ (a b f p : Addr) (o n : Tokens) (t : Tr'), vs = [.ref a, .ref b] ∧ TreeAt K X.C_Tree H a t ∧ StepAt K X.C_Step H b (.hunk f p o n) ∧ ∀ H' : Hp, Same H H' → Q (.bl (applied t (.hunk f p o n)).isSome) H'
theorem ok_Tree_fits_hunk (X : Txt K mg) : FnOk P w K mg base CX0 2 X.m_Tree_fits_hunk.f X.m_Tree_fits_hunk.fd ["self", "step"] (sp_Tree_fits_hunk X) := by
  refine X.m_Tree_fits_hunk.F.ok sc_Tree_fits_hunk (fun vs H Q E h => ?_) (fun cdv A outer s0 H vs Q E hr h => ?_)
  · obtain ⟨a, b, f, p, o, n, t, rfl, _⟩ := h
    rfl
  · obtain ⟨a, b, f, p, o, n, t, rfl, ⟨dx, d, kvs, ht⟩, ⟨ex, ao, an, hs⟩, q⟩ := h
    refine ⟨_, (pss_cons (ps_if (pt_not (pt_val (pe_meth (pv 0) X.cl_Tree X.m_Tree_has.m (ok_Tree_has X) (hr.mono (by decide)) X.m_Tree_has.b .nil pass0 (pa_cons (pe_fld (pv 1) rfl) pa_nil)))) (pss_one (ps_ret pe_bl)) pss_nil)
        (pss_cons (ps_set (i := 2) sc_Tree_fits_hunk.nd rfl (.inl rfl) (pe_meth (pv 0) X.cl_Tree X.m_Tree_tokens.m (ok_Tree_tokens X) (hr.mono (by decide)) X.m_Tree_tokens.b .nil pass0 (pa_cons (pe_fld (pv 1) rfl) pa_nil)))
        (pss_one (ps_ret (pe_and (pe_cmpR op_le (pe_fld (pv 1) rfl) (pe_callB call_len_seq (by rfl) X.b_len (by decide +kernel) (pa_cons (pv 2) pa_nil)) (nomark _)) (pe_one (pe_cmpR (op_eqD hr.units) (pe_slice sl_tupA (pv 2) (po_some (pe_fld (pv 1) rfl)) (po_some (pe_op op_add (pe_fld (pv 1) rfl) (pe_callB call_len_seq (by rfl) X.b_len (by decide +kernel) (pa_cons (pe_fld (pv 1) rfl) pa_nil))))) (pe_fld (pv 1) rfl) (nomark _)))))))), ?_⟩
    have eap : (applied t (.hunk f p o n)).isSome = match fileIn t f with
      | none => false
      | some c => decide (p ≤ c.length ∧ (c.drop p).take o.length = o) := by
      simp only [VapatBase.applied]
      cases fileIn t f with
      | none => rfl
      | some c =>
        simp only [Option.bind_some, VapatBase.spliced]
        split
        · rename_i h
          rw [decide_eq_true h]
          rfl
        · rename_i h
          rw [decide_eq_false h]
          rfl
    rw [eap] at q
    refine r_tmeth ht ?_
    refine r_name X hs ?_
    refine ⟨a, f, t, rfl, ⟨dx, d, kvs, ht⟩, ⟨_, rfl, ?_⟩⟩
    cases e : fileIn t f with
    | none =>
      rw [e] at q
      exact ifT rfl (q H (Same.refl H))
    | some c =>
      rw [e] at q
      refine ifF rfl ?_
      refine r_tmeth ht ?_
      refine r_name X hs ?_
      refine ⟨a, f, t, c, rfl, ⟨dx, d, kvs, ht⟩, e, fun r hr => ?_⟩
      refine r_place X hs ?_
      refine ⟨_, rfl, _, _, rfl, .inr hr, _, _, rfl, rfl, _, rfl, ?_⟩
      rw [tok_len]
      by_cases c1 : p ≤ c.length
      · refine ifT (decide_eq_true (Int.ofNat_le.mpr c1)) ?_
        refine ⟨_, rfl, ?_⟩
        refine r_place X hs ?_
        refine ⟨_, rfl, ?_⟩
        refine r_place X hs ?_
        refine r_old X hs ?_
        refine ⟨_, _, rfl, .inr hs.old, _, _, rfl, rfl, _, rfl, ?_⟩
        refine cut_t hr fun H1 r1 s1 h1 => ?_
        have ecut : cutV (tok c) (some ((p : Nat) : Int)) (some (((p : Nat) : Int) + ((tok o).length : Int))) = tok ((c.drop p).take o.length) := by
          rw [tok_len, show ((p : Nat) : Int) + ((o.length : Nat) : Int) = ((p + o.length : Nat) : Int) by omega, cut_nat]
          unfold tok
          rw [List.map_take, List.map_drop]
          congr 1
          omega
        have h1' : SqT K H1 r1 (cutV (tok c) (some ((p : Nat) : Int)) (some (((p : Nat) : Int) + ((tok o).length : Int)))) := h1
        rw [ecut, tok_ints] at h1'
        refine r_old X (hs.same s1) ?_
        have ho := (hs.same s1).old
        rw [tok_ints] at ho
        refine eq_t h1' ho ?_
        have em : decide (((c.drop p).take o.length).map Int.ofNat = o.map Int.ofNat) = decide (p ≤ c.length ∧ (c.drop p).take o.length = o) := by
          rw [Bool.eq_iff_iff, decide_eq_true_eq, decide_eq_true_eq]
          constructor
          · intro h
            exact ⟨c1, (List.map_inj_right (fun x y e => by exact Int.ofNat.inj e)).mp h⟩
          · intro h
            rw [h.2]
        have := q H1 s1
        simp only at this
        rw [← em] at this
        exact this
      · refine ifF (decide_eq_false (fun h => c1 (Int.ofNat_le.mp h))) ?_
        have := q H (Same.refl H)
        simp only at this
        rw [decide_eq_false (fun h => c1 h.1)] at this
        exact this
def sp_Tree_fits (X : Txt K mg) : Sp := fun vs H Q _ => ∃ (a b : Addr) (s : St') (t : Tr'), vs = [.ref a, .ref b] ∧ TreeAt K X.C_Tree H a t ∧ StepAt K X.C_Step H b s ∧ ∀ H' : Hp, Same H H' → Q (.bl (applied t s).isSome) H'
theorem ok_Tree_fits (X : Txt K mg) : FnOk P w K mg base CX0 3 X.m_Tree_fits.f X.m_Tree_fits.fd ["self", "step"] (sp_Tree_fits X) := by
  refine X.m_Tree_fits.F.ok sc_Tree_fits (fun vs H Q E h => ?_) (fun cdv A outer s0 H vs Q E hr h => ?_)
  · obtain ⟨a, b, s, t, rfl, _⟩ := h
    rfl
  · obtain ⟨a, b, s, t, rfl, ⟨dx, d, kvs, ht⟩, ⟨ex, ao, an, hs⟩, q⟩ := h
    refine ⟨_, (pss_cons (ps_if (pt_cmpR op_eq (pe_fld (pv 1) rfl) (pe_glob (v := .int 0) rfl X.c_HUNK.h ⟨_, rfl⟩) (nomark _)) (pss_one (ps_ret (pe_meth (pv 0) X.cl_Tree X.m_Tree_fits_hunk.m (ok_Tree_fits_hunk X) (hr.mono (by decide)) X.m_Tree_fits_hunk.b .nil pass0 (pa_cons (pv 1) pa_nil)))) pss_nil)
        (pss_cons (ps_if (pt_cmpR op_eq (pe_fld (pv 1) rfl) (pe_glob (v := .int 1) rfl X.c_SWAP.h ⟨_, rfl⟩) (nomark _)) (pss_one (ps_ret (pe_meth (pv 0) X.cl_Tree X.m_Tree_has.m (ok_Tree_has X) (hr.mono (by decide)) X.m_Tree_has.b .nil pass0 (pa_cons (pe_fld (pv 1) rfl) pa_nil)))) pss_nil)
        (pss_cons (ps_if (pt_cmpR op_eq (pe_fld (pv 1) rfl) (pe_glob (v := .int 2) rfl X.c_ADDED.h ⟨_, rfl⟩) (nomark _)) (pss_one (ps_ret (pe_not (pe_meth (pv 0) X.cl_Tree X.m_Tree_has.m (ok_Tree_has X) (hr.mono (by decide)) X.m_Tree_has.b .nil pass0 (pa_cons (pe_fld (pv 1) rfl) pa_nil))))) pss_nil)
        (pss_cons (ps_if (pt_cmpR op_eq (pe_fld (pv 1) rfl) (pe_glob (v := .int 3) rfl X.c_REMOVED.h ⟨_, rfl⟩) (nomark _)) (pss_one (ps_ret (pe_and (pe_meth (pv 0) X.cl_Tree X.m_Tree_has.m (ok_Tree_has X) (hr.mono (by decide)) X.m_Tree_has.b .nil pass0 (pa_cons (pe_fld (pv 1) rfl) pa_nil)) (pe_one (pe_cmpR op_eq (pe_callB call_len_seq (by rfl) X.b_len (by decide +kernel) (pa_cons (pe_meth (pv 0) X.cl_Tree X.m_Tree_tokens.m (ok_Tree_tokens X) (hr.mono (by decide)) X.m_Tree_tokens.b .nil pass0 (pa_cons (pe_fld (pv 1) rfl) pa_nil)) pa_nil)) pe_int (nomark _)))))) pss_nil)
        (pss_one (ps_ret (pe_and (pe_meth (pv 0) X.cl_Tree X.m_Tree_has.m (ok_Tree_has X) (hr.mono (by decide)) X.m_Tree_has.b .nil pass0 (pa_cons (pe_fld (pv 1) rfl) pa_nil)) (pe_one (pe_not (pe_meth (pv 0) X.cl_Tree X.m_Tree_has.m (ok_Tree_has X) (hr.mono (by decide)) X.m_Tree_has.b .nil pass0 (pa_cons (pe_fld (pv 1) rfl) pa_nil))))))))))), ?_⟩
    refine r_kind X hs ?_
    refine ⟨rfl, _, rfl, ?_⟩
    rw [dec_i]
    cases s with
    | hunk f p o n =>
      refine ifT rfl ?_
      refine r_tmeth ht ?_
      exact ⟨_, rfl, a, b, f, p, o, n, t, rfl, ⟨dx, d, kvs, ht⟩, ⟨ex, ao, an, hs⟩, q⟩
    | swap f x y =>
      refine ifF rfl ?_
      refine r_kind X hs ?_
      refine ⟨rfl, _, rfl, ?_⟩
      rw [dec_i]
      refine ifT rfl ?_
      refine r_tmeth ht ?_
      refine r_name X hs ?_
      refine ⟨a, f, t, rfl, ⟨dx, d, kvs, ht⟩, ?_⟩
      have e : (applied t (.swap f x y)).isSome = (fileIn t f).isSome := by
        simp only [VapatBase.applied]
        cases fileIn t f <;> rfl
      rw [e] at q
      exact q H (Same.refl H)
    | add f =>
      refine ifF rfl ?_
      refine r_kind X hs ?_
      refine ⟨rfl, _, rfl, ?_⟩
      rw [dec_i]
      refine ifF rfl ?_
      refine r_kind X hs ?_
      refine ⟨rfl, _, rfl, ?_⟩
      rw [dec_i]
      refine ifT rfl ?_
      refine r_tmeth ht ?_
      refine r_name X hs ?_
      refine ⟨a, f, t, rfl, ⟨dx, d, kvs, ht⟩, _, rfl, ?_⟩
      have e : (applied t (.add f)).isSome = !(fileIn t f).isSome := by
        simp only [VapatBase.applied]
        cases fileIn t f <;> rfl
      rw [e] at q
      exact q H (Same.refl H)
    | remove f =>
      refine ifF rfl ?_
      refine r_kind X hs ?_
      refine ⟨rfl, _, rfl, ?_⟩
      rw [dec_i]
      refine ifF rfl ?_
      refine r_kind X hs ?_
      refine ⟨rfl, _, rfl, ?_⟩
      rw [dec_i]
      refine ifF rfl ?_
      refine r_kind X hs ?_
      refine ⟨rfl, _, rfl, ?_⟩
      rw [dec_i]
      refine ifT rfl ?_
      refine r_tmeth ht ?_
      refine r_name X hs ?_
      refine ⟨a, f, t, rfl, ⟨dx, d, kvs, ht⟩, _, rfl, ?_⟩
      have q' := q H (Same.refl H)
      cases e : fileIn t f with
      | none =>
        refine ifF rfl ?_
        have : (applied t (.remove f)).isSome = false := by
          simp only [VapatBase.applied, e]
          rfl
        rw [this] at q'
        exact q'
      | some c =>
        refine ifT rfl ?_
        refine r_tmeth ht ?_
        refine r_name X hs ?_
        refine ⟨a, f, t, c, rfl, ⟨dx, d, kvs, ht⟩, e, fun r hr => ?_⟩
        refine ⟨_, _, rfl, .inr hr, rfl, ?_⟩
        have : (applied t (.remove f)).isSome = decide ((((tok c).length : Nat) : Int) = 0) := by
          simp only [VapatBase.applied, e, tok_len]
          cases c with
          | nil => rfl
          | cons z c =>
            rw [decide_eq_false (by simp only [List.length_cons]; omega)]
            rfl
        rw [this] at q'
        rw [dec_i]
        exact q'
    | move f g =>
      refine ifF rfl ?_
      refine r_kind X hs ?_
      refine ⟨rfl, _, rfl, ?_⟩
      rw [dec_i]
      refine ifF rfl ?_
      refine r_kind X hs ?_
      refine ⟨rfl, _, rfl, ?_⟩
      rw [dec_i]
      refine ifF rfl ?_
      refine r_kind X hs ?_
      refine ⟨rfl, _, rfl, ?_⟩
      rw [dec_i]
      refine ifF rfl ?_
      refine r_tmeth ht ?_
      refine r_name X hs ?_
      refine ⟨a, f, t, rfl, ⟨dx, d, kvs, ht⟩, _, rfl, ?_⟩
      have q' := q H (Same.refl H)
      cases e : fileIn t f with
      | none =>
        refine ifF rfl ?_
        have : (applied t (.move f g)).isSome = false := by
          rw [RM.ap_m, e]
          split <;> rfl
        rw [this] at q'
        exact q'
      | some c =>
        refine ifT rfl ?_
        refine r_tmeth ht ?_
        refine r_goal X hs ?_
        refine ⟨a, g, t, rfl, ⟨dx, d, kvs, ht⟩, _, rfl, ?_⟩
        have : (applied t (.move f g)).isSome = !(fileIn t g).isSome := by
          rw [RM.ap_m, e]
          cases fileIn t g <;> rfl
        rw [this] at q'
        exact q'
def sp_Tree_with_file (X : Txt K mg) : Sp := fun vs H Q _ => ∃ (a b : Addr) (f : Nat) (c : Tokens) (t : Tr'), vs = [.ref a, vN f, .ref b] ∧ TreeAt K X.C_Tree H a t ∧ SqT K H b (tok c) ∧ Srt t ∧ t.length ≤ 1000 ∧ Post H Q (TreeR K X.C_Tree (putFile f c t))
theorem ok_Tree_with_file (X : Txt K mg) : FnOk P w K mg base CX0 3 X.m_Tree_with_file.f X.m_Tree_with_file.fd ["self", "name", "tokens"] (sp_Tree_with_file X) := by
  refine X.m_Tree_with_file.F.ok sc_Tree_with_file (fun vs H Q E h => ?_) (fun cdv A outer s0 H vs Q E hr h => ?_)
  · obtain ⟨a, b, f, c, t, rfl, _⟩ := h
    rfl
  · obtain ⟨a, b, f, c, t, rfl, ⟨dx, d, kvs, ht⟩, hc, st, lt, q⟩ := h
    refine ⟨_, (pss_cons (ps_set (i := 3) sc_Tree_with_file.nd rfl (.inl rfl) (pe_callTy call_dictD (by rfl) X.b_dict (by decide +kernel) (pa_cons (pe_fld (pv 0) rfl) pa_nil)))
        (pss_cons (ps_dput (hu_of hr) (pv 3) (pv 1) (pv 2) rfl)
        (pss_one (ps_ret (pe_make X.mk_Tree (ok_Tree_init X) (hr.mono (by decide)) rfl X.g_Tree X.m_Tree_init.b .nil pass0 (pa_cons (pv 3) pa_nil)))))), ?_⟩
    refine r_files X ht ?_
    refine ⟨d, kvs, rfl, .inl ht.dic, fun p1 n1 => ?_⟩
    refine alloc n1 fun H1 s1 e1 => ?_
    refine ⟨_, rfl, _, rfl, _, rfl, p1, _, rfl, DPut.k (k := kI f) e1 (line_lt (by rw [ht.files.len]; omega)), ?_⟩
    refine ⟨_, rfl, ?_⟩
    have s2 : Same H (upd H1 p1 (.dK (putK kvs (kI f) (.ref b)))) := same_off s1 n1 Off.upd
    exact make_tree X upd_same ((ht.files.same s2).put st (sqT_same s2 hc)) (q.of s2)
def sp_Tree_without (X : Txt K mg) : Sp := fun vs H Q _ => ∃ (a : Addr) (f : Nat) (t : Tr'), vs = [.ref a, vN f] ∧ TreeAt K X.C_Tree H a t ∧ Srt t ∧ t.length ≤ 1000 ∧ Post H Q (TreeR K X.C_Tree (dropFile f t))
theorem ok_Tree_without (X : Txt K mg) : FnOk P w K mg base CX0 3 X.m_Tree_without.f X.m_Tree_without.fd ["self", "name"] (sp_Tree_without X) := by
  refine X.m_Tree_without.F.ok sc_Tree_without (fun vs H Q E h => ?_) (fun cdv A outer s0 H vs Q E hr h => ?_)
  · obtain ⟨a, f, t, rfl, _⟩ := h
    rfl
  · obtain ⟨a, f, t, rfl, ⟨dx, d, kvs, ht⟩, st, lt, q⟩ := h
    refine ⟨_, (pss_one (ps_ret (pe_make X.mk_Tree (ok_Tree_init X) (hr.mono (by decide)) rfl X.g_Tree X.m_Tree_init.b .nil pass0 (pa_cons (pe_callTy (call_dictP rfl) (by rfl) X.b_dict (by decide +kernel) (pa_cons (pe_lock (pe_lc (own := [("other", 2)]) (te := tTup (tCons (tVar 2) (tCons (tDGet (tFld K (tVar 0) "files") (tVar 2)) tNil))) rfl sc_Tree_without.nd (pi_keys (pe_fld (pv 0) rfl)) (blkOk_by (own := [("other", 2)]) (N := n_Tree_without) (sc := defScope s_Tree_without) (by decide +kernel)) (fun _ _ _ _ _ => (pg_name (i := 2) sc_Tree_without.nd rfl (.inl rfl))) (fun _ _ _ _ _ => (pts_one (pt_cmpR op_ne (pv 2) (pv 1) (nomark _)))) (fun _ _ _ _ _ => (pe_tup (pa_cons (pv 2) (pa_cons (pe_dgetA (pe_fld (pv 0) rfl) (pv 2) (fun _ _ => rfl) (hu_of hr)) pa_nil)))))) pa_nil)) pa_nil)))), ?_⟩
    have lk : kvs.length ≤ 1000 := by rw [ht.files.len]; exact lt
    have nad : a ≠ d := ne_of ht.ins ht.dic (by intro z; cases z)
    refine ⟨d, _, ht.dic, trivial, fun od => ?_⟩
    have hfa : (upd H d (.frz od (.dK kvs))) a = some (.ins X.C_Tree dx [("files", .ref d)]) := by rw [upd_ne nad]; exact ht.ins
    have hfd : (upd H d (.frz od (.dK kvs))) d = some (.frz od (.dK kvs)) := upd_same
    generalize hHf : upd H d (.frz od (.dK kvs)) = Hf at *
    refine ⟨_, rfl, a, _, dx, _, _, rfl, hfa, X.cl_Tree, X.na_Tree_files, fT_files, ?_⟩
    refine ⟨d, od, rfl, .inl ⟨kvs, hfd, fun D hD => ?_⟩⟩
    refine lc_it walk_keys (fun i H' => ∃ ps, Same Hf H' ∧ H' D = some (.lst (ps.map V.ref)) ∧ Two (fun p kv => H' p = some (.tup [kV kv.1, kv.2])) ps (dropK (kvs.take i) (kI f))) ⟨[], same_upd hD, upd_same, .nil⟩ (fun i H' _ ⟨_, s1, _, _⟩ => s1 _ _ hfd) ?_ ?_
    · rintro i x H1 H2 hi ⟨ps, s1, eD, hps⟩ ⟨rfl, k, v, hk, rfl⟩
      obtain ⟨n, rfl⟩ := ht.files.keyN hk
      have hv := valV_get (ht.files.nodup st) hk
      have dm := drop_more (j := kI f) hk
      refine ⟨rfl, _, rfl, _, rfl, rfl, _, rfl, ?_⟩
      have en : (kV (kI n) = vN f) ↔ kI n = kI f := ⟨fun h => kV_inj h, fun h => by rw [h]; rfl⟩
      by_cases c : kI n = kI f
      · refine ifF (by show (!decide (kV (kI n) = vN f)) = false; rw [decide_eq_true (en.mpr c)]; rfl) ?_
        refine ⟨ps, s1, eD, ?_⟩
        rw [dm, if_pos c, List.append_nil]
        exact hps
      · refine ifT (by show (!decide (kV (kI n) = vN f)) = true; rw [decide_eq_false (fun h => c (en.mp h))]; rfl) ?_
        refine ⟨_, rfl, _, rfl, a, _, dx, _, _, rfl, s1 _ _ hfa, X.cl_Tree, X.na_Tree_files, fT_files, ?_⟩
        refine ⟨_, rfl, d, v, rfl, .inl ⟨kvs, kI n, .inr ⟨od, s1 _ _ hfd⟩, rfl, hv.symm⟩, (by show 2 ≤ sizeLine; decide), fun p np => ?_⟩
        refine alloc np fun H3 s3 e3 => ?_
        have lp : ps.length ≤ 1000 := by
          rw [hps.len]
          refine Nat.le_trans (dropK_le _ _) ?_
          rw [List.length_take]
          omega
        have sD : H3 D = some (.lst (ps.map V.ref)) := s3 _ _ eD
        refine ⟨_, sD, line_lt (by rw [List.length_map]; omega), ?_⟩
        refine ⟨ps ++ [p], same_off (s1.trans s3) hD Off.upd, by rw [upd_same, List.map_append]; rfl, ?_⟩
        rw [dm, if_neg c]
        have up : ∀ (q : Addr) (o : HO), H3 q = some o → (∀ xs, o ≠ .lst xs) → (upd H3 D (.lst (ps.map V.ref ++ [.ref p]))) q = some o := fun q o e no => by
          rw [upd_ne (fun z => no _ (by rw [z, sD] at e; exact (Option.some.inj e).symm))]
          exact e
        exact (Two.imp hps fun q kv e => up q _ (s3 _ _ e) (by intro xs z; cases z)).app (.one (up p _ e3 (by intro xs z; cases z)))
    · rintro H1 ⟨ps, s1, eD, hps⟩
      rw [List.take_length] at hps
      refine ⟨s1 _ _ hfd, ?_⟩
      -- the dict is free again
      have s2 : Same H (upd H1 d (.dK kvs)) := fun b o e => by
        by_cases z : b = d
        · subst z
          rw [ht.dic] at e
          rw [upd_same, ← e]
        · rw [upd_ne z]
          refine s1 _ _ ?_
          rw [← hHf, upd_ne z]
          exact e
      have nDd : D ≠ d := fun z => by rw [z, hfd] at hD; cases hD
      have keep : ∀ (q : Addr) (o : HO), H1 q = some o → (∀ o' u, o ≠ .frz o' u) → (upd H1 d (.dK kvs)) q = some o := fun q o e no => by
        rw [upd_ne (fun z => no _ _ (by rw [z, s1 _ _ hfd] at e; exact (Option.some.inj e).symm))]
        exact e
      refine ⟨D, ps, dropK kvs (kI f), rfl, SqL.of (keep D _ eD (by intro o u z; cases z)), paired_of (Two.imp hps fun q kv e => SqT.of (keep q _ e (by intro o u z; cases z))), fun p np => ?_⟩
      have nd : ((dropK kvs (kI f)).map (·.1)).Nodup := nd_dropK (ht.files.nodup st)
      rw [merge_nodup _ _ (by rw [List.nil_append]; exact nd), List.nil_append]
      refine alloc np fun H3 s3 e3 => ?_
      exact make_tree X e3 ((ht.files.drop f).same (s2.trans s3)) (q.of (s2.trans s3))
def sp_Tree_applied (X : Txt K mg) : Sp := fun vs H Q _ => ∃ (a b : Addr) (s : St') (t u : Tr'), vs = [.ref a, .ref b] ∧ TreeAt K X.C_Tree H a t ∧ StepAt K X.C_Step H b s ∧ Okk s ∧ TOk 2000 t ∧ applied t s = some u ∧ Post H Q (TreeR K X.C_Tree u)
theorem ok_Tree_applied (X : Txt K mg) : FnOk P w K mg base CX0 4 X.m_Tree_applied.f X.m_Tree_applied.fd ["self", "step"] (sp_Tree_applied X) := by
  refine X.m_Tree_applied.F.ok sc_Tree_applied (fun vs H Q E h => ?_) (fun cdv A outer s0 H vs Q E hr h => ?_)
  · obtain ⟨a, b, s, t, u, rfl, _⟩ := h
    rfl
  · obtain ⟨a, b, s, t, u, rfl, ⟨dx, d, kvs, ht⟩, ⟨ex, ao, an, hs⟩, ok, tk, e, q⟩ := h
    refine ⟨_, (pss_cons (ps_if (pt_cmpR op_eq (pe_fld (pv 1) rfl) (pe_glob (v := .int 2) rfl X.c_ADDED.h ⟨_, rfl⟩) (nomark _)) (pss_one (ps_ret (pe_meth (pv 0) X.cl_Tree X.m_Tree_with_file.m (ok_Tree_with_file X) (hr.mono (by decide)) X.m_Tree_with_file.b .nil pass0 (pa_cons (pe_fld (pv 1) rfl) (pa_cons (pe_tup pa_nil) pa_nil))))) pss_nil)
        (pss_cons (ps_if (pt_cmpR op_eq (pe_fld (pv 1) rfl) (pe_glob (v := .int 3) rfl X.c_REMOVED.h ⟨_, rfl⟩) (nomark _)) (pss_one (ps_ret (pe_meth (pv 0) X.cl_Tree X.m_Tree_without.m (ok_Tree_without X) (hr.mono (by decide)) X.m_Tree_without.b .nil pass0 (pa_cons (pe_fld (pv 1) rfl) pa_nil)))) pss_nil)
        (pss_cons (ps_set (i := 2) sc_Tree_applied.nd rfl (.inl rfl) (pe_meth (pv 0) X.cl_Tree X.m_Tree_tokens.m (ok_Tree_tokens X) (hr.mono (by decide)) X.m_Tree_tokens.b .nil pass0 (pa_cons (pe_fld (pv 1) rfl) pa_nil)))
        (pss_cons (ps_if (pt_cmpR op_eq (pe_fld (pv 1) rfl) (pe_glob (v := .int 4) rfl X.c_MOVED.h ⟨_, rfl⟩) (nomark _)) (pss_one (ps_ret (pe_meth (pe_meth (pv 0) X.cl_Tree X.m_Tree_without.m (ok_Tree_without X) (hr.mono (by decide)) X.m_Tree_without.b .nil pass0 (pa_cons (pe_fld (pv 1) rfl) pa_nil)) X.cl_Tree X.m_Tree_with_file.m (ok_Tree_with_file X) (hr.mono (by decide)) X.m_Tree_with_file.b .nil pass0 (pa_cons (pe_fld (pv 1) rfl) (pa_cons (pv 2) pa_nil))))) pss_nil)
        (pss_cons (ps_if (pt_cmpR op_eq (pe_fld (pv 1) rfl) (pe_glob (v := .int 1) rfl X.c_SWAP.h ⟨_, rfl⟩) (nomark _)) (pss_one (ps_ret (pe_meth (pv 0) X.cl_Tree X.m_Tree_with_file.m (ok_Tree_with_file X) (hr.mono (by decide)) X.m_Tree_with_file.b .nil pass0 (pa_cons (pe_fld (pv 1) rfl) (pa_cons (pe_call (ok_swapped X) (hr.mono (by decide)) rfl X.d_swapped.g X.d_swapped.F.kp X.d_swapped.b .nil pass0 (pa_cons (pv 2) (pa_cons (pe_ix ix_tup (pe_fld (pv 1) rfl) pe_int (fun _ _ => rfl)) (pa_cons (pe_ix ix_tup (pe_fld (pv 1) rfl) pe_int (fun _ _ => rfl)) pa_nil)))) pa_nil))))) pss_nil)
        (pss_one (ps_ret (pe_meth (pv 0) X.cl_Tree X.m_Tree_with_file.m (ok_Tree_with_file X) (hr.mono (by decide)) X.m_Tree_with_file.b .nil pass0 (pa_cons (pe_fld (pv 1) rfl) (pa_cons (pe_op op_catA (pe_op op_catA (pe_slice sl_tupA (pv 2) po_none (po_some (pe_fld (pv 1) rfl))) (pe_fld (pv 1) rfl)) (pe_slice sl_tupA (pv 2) (po_some (pe_op op_add (pe_fld (pv 1) rfl) (pe_callB call_len_seq (by rfl) X.b_len (by decide +kernel) (pa_cons (pe_fld (pv 1) rfl) pa_nil)))) po_none)) pa_nil)))))))))), ?_⟩
    have lt : t.length ≤ 1000 := Nat.le_trans tk.len (by decide)
    have hT : TreeAt K X.C_Tree H a t := ⟨dx, d, kvs, ht⟩
    refine r_kind X hs ?_
    refine ⟨rfl, _, rfl, ?_⟩
    rw [dec_i]
    cases s with
    | add f =>
      refine ifT rfl ?_
      refine r_tmeth ht ?_
      refine r_name X hs ?_
      refine ⟨Nat.zero_le _, fun p1 n1 => ?_⟩
      refine alloc n1 fun H1 s1 e1 => ?_
      refine ⟨a, p1, f, [], t, rfl, hT.same s1, SqT.of e1, tk.srt, lt, ?_⟩
      have : u = putFile f [] t := by
        simp only [VapatBase.applied] at e
        split at e
        · exact (Option.some.inj e).symm
        · cases e
      subst this
      exact q.of s1
    | remove f =>
      refine ifF rfl ?_
      refine r_kind X hs ?_
      refine ⟨rfl, _, rfl, ?_⟩
      rw [dec_i]
      refine ifT rfl ?_
      refine r_tmeth ht ?_
      refine r_name X hs ?_
      have : u = dropFile f t := by
        simp only [VapatBase.applied] at e
        split at e
        · exact (Option.some.inj e).symm
        · cases e
      subst this
      exact ⟨a, f, t, rfl, hT, tk.srt, lt, q⟩
    | move f g =>
      rw [RM.ap_m] at e
      split at e
      · cases ec : fileIn t f with
        | none => rw [ec] at e; cases e
        | some c =>
          rw [ec] at e
          have : u = putFile g c (dropFile f t) := (Option.some.inj e).symm
          subst this
          refine ifF rfl ?_
          refine r_kind X hs ?_
          refine ⟨rfl, _, rfl, ?_⟩
          rw [dec_i]
          refine ifF rfl ?_
          refine r_tmeth ht ?_
          refine r_name X hs ?_
          refine ⟨a, f, t, c, rfl, hT, ec, fun r hr => ?_⟩
          refine r_kind X hs ?_
          refine ⟨rfl, _, rfl, ?_⟩
          rw [dec_i]
          refine ifT rfl ?_
          refine r_tmeth ht ?_
          refine r_name X hs ?_
          refine ⟨a, f, t, rfl, hT, tk.srt, lt, fun H1 v s1 r1 => ?_⟩
          obtain ⟨a2, rfl, dx2, d2, kvs2, ht2⟩ := r1
          refine ⟨a2, dx2, _, rfl, ht2.ins, fT_no (by decide +kernel), ?_⟩
          refine r_goal X (hs.same s1) ?_
          refine ⟨_, rfl, ?_⟩
          exact ⟨a2, r, g, c, _, rfl, ⟨dx2, d2, kvs2, ht2⟩, sqT_same s1 hr, RM.srt_drop _ tk.srt, Nat.le_trans (List.length_filter_le _ _) lt, q.of s1⟩
      · cases e
    | swap f x y =>
      obtain ⟨c, c', ec, e2, rfl⟩ := RM.ap_i_some (b := .s x y) e
      have e3 : swapAll x y c = c' := Option.some.inj e2
      subst e3
      refine ifF rfl ?_
      refine r_kind X hs ?_
      refine ⟨rfl, _, rfl, ?_⟩
      rw [dec_i]
      refine ifF rfl ?_
      refine r_tmeth ht ?_
      refine r_name X hs ?_
      refine ⟨a, f, t, c, rfl, hT, ec, fun r hr => ?_⟩
      refine r_kind X hs ?_
      refine ⟨rfl, _, rfl, ?_⟩
      rw [dec_i]
      refine ifF rfl ?_
      refine r_kind X hs ?_
      refine ⟨rfl, _, rfl, ?_⟩
      rw [dec_i]
      refine ifT rfl ?_
      refine r_tmeth ht ?_
      refine r_name X hs ?_
      refine ⟨_, rfl, ?_⟩
      refine r_old X hs ?_
      refine ⟨_, _, _, _, rfl, rfl, hs.old, rfl, ?_⟩
      refine r_new X hs ?_
      refine ⟨_, _, _, _, rfl, rfl, hs.new, rfl, ?_⟩
      refine ⟨r, x, y, c, rfl, hr, Nat.le_trans (tk.file ec) (by decide), fun H1 b1 s1 h1 => ?_⟩
      exact ⟨a, b1, f, _, t, rfl, hT.same s1, h1, tk.srt, lt, q.of s1⟩
    | hunk f p o n =>
      obtain ⟨c, c', ec, e2, rfl⟩ := RM.ap_i_some (b := .h p o n) e
      refine ifF rfl ?_
      refine r_kind X hs ?_
      refine ⟨rfl, _, rfl, ?_⟩
      rw [dec_i]
      refine ifF rfl ?_
      refine r_tmeth ht ?_
      refine r_name X hs ?_
      refine ⟨a, f, t, c, rfl, hT, ec, fun r hr => ?_⟩
      refine r_kind X hs ?_
      refine ⟨rfl, _, rfl, ?_⟩
      rw [dec_i]
      refine ifF rfl ?_
      refine r_kind X hs ?_
      refine ⟨rfl, _, rfl, ?_⟩
      rw [dec_i]
      refine ifF rfl ?_
      refine r_tmeth ht ?_
      refine r_name X hs ?_
      refine ⟨_, rfl, ?_⟩
      refine r_place X hs ?_
      refine ⟨_, rfl, ?_⟩
      have lc := tk.file ec
      obtain ⟨_, lo, ln⟩ := ok
      have e4 : VapatBase.spliced c p o n = some c' := e2
      unfold VapatBase.spliced at e4
      split at e4
      · rename_i hsp
        have e5 : c.take p ++ (n ++ c.drop (p + o.length)) = c' := Option.some.inj e4
        refine cut_t hr fun H1 r1 s1 h1 => ?_
        have h1' : SqT K H1 r1 (cutV (tok c) none (some ((p : Nat) : Int))) := h1
        rw [cut_to] at h1'
        refine r_new X (hs.same s1) ?_
        refine cat_t h1' (hs.same s1).new (by simp only [List.length_take, tok_len, nwN]; omega) fun H2 r2 s2 h2 => ?_
        have s12 := s1.trans s2
        refine ⟨_, rfl, ?_⟩
        refine r_place X (hs.same s12) ?_
        refine r_old X (hs.same s12) ?_
        refine ⟨_, _, rfl, .inr (hs.same s12).old, _, _, rfl, rfl, _, rfl, ?_⟩
        delta tNoPart
        refine cut_t (sqT_same s12 hr) fun H3 r3 s3 h3 => ?_
        have h3' : SqT K H3 r3 (cutV (tok c) (some (((p : Nat) : Int) + ((tok o).length : Int))) none) := h3
        rw [tok_len, show ((p : Nat) : Int) + ((o.length : Nat) : Int) = ((p + o.length : Nat) : Int) by omega, cut_from] at h3'
        refine cat_t (sqT_same s3 h2) h3' (by simp only [List.length_append, List.length_take, List.length_drop, tok_len, nwN]; omega) fun H4 r4 s4 h4 => ?_
        have s14 := (s12.trans s3).trans s4
        refine ⟨a, r4, f, c', t, rfl, hT.same s14, ?_, tk.srt, lt, q.of s14⟩
        have ee : tok c' = (tok c).take p ++ tok n ++ (tok c).drop (p + o.length) := by
          rw [← e5]
          simp [tok]
        rw [ee]
        exact h4
      · cases e4
end
end Rw

/-! part RwTree3 -/
set_option Elab.async false
set_option linter.all false
set_option maxRecDepth 100000
set_option maxHeartbeats 4000000
namespace Rw
open PySem PySem.Spec PyProof.Rows L2
open VapatBase (Tokens)
/-! Trees walked: behind a row, as numbers, read. -/
open VapatBase (fileIn putFile dropFile applied appliedAll swapAll flatTree)
open RM (Srt isNm counted at0 treeGo treeOf)
section
variable {P : Program} {w : World} {K : PySem.W.Frag} {mg : Str → Option Value} {base : Heap}
def sp_Tree_behind (X : Txt K mg) : Sp := fun vs H Q _ => ∃ (a r : Addr) (ss : List St') (t u : Tr'), vs = [.ref a, .ref r] ∧ TreeAt K X.C_Tree H a t ∧ RowAt K X.C_Step H r ss ∧ (∀ s ∈ ss, Okk s) ∧ ss.length ≤ 200 ∧ TOk 100 t ∧ appliedAll t ss = some u ∧ Post H Q (TreeR K X.C_Tree u)
theorem apa_take {ss : List St'} {t u : Tr'} (e : appliedAll t ss = some u) (i : Nat) : ∃ w, appliedAll t (ss.take i) = some w := by
  have : appliedAll t (ss.take i ++ ss.drop i) = some u := by rw [List.take_append_drop]; exact e
  obtain ⟨w, h, _⟩ := RM.apa_app_iff.mp this
  exact ⟨w, h⟩
theorem apa_ok : ∀ {ss : List St'} {n : Nat} {t u : Tr'}, TOk n t → (∀ s ∈ ss, Okk s) → appliedAll t ss = some u → TOk (n + 8 * ss.length) u
  | [], n, t, u, h, _, e => by
    cases e
    exact h
  | s :: ss, n, t, u, h, ok, e => by
    obtain ⟨v, e1, e2⟩ := RM.apa_cons.mp e
    have := apa_ok (h.ap (ok s List.mem_cons_self) e1) (fun z hz => ok z (List.mem_cons_of_mem _ hz)) e2
    refine this.mono ?_
    rw [List.length_cons]
    omega
theorem ok_Tree_behind (X : Txt K mg) : FnOk P w K mg base CX0 5 X.m_Tree_behind.f X.m_Tree_behind.fd ["self", "row"] (sp_Tree_behind X) := by
  refine X.m_Tree_behind.F.ok sc_Tree_behind (fun vs H Q E h => ?_) (fun cdv A outer s0 H vs Q E hr h => ?_)
  · obtain ⟨a, r, ss, t, u, rfl, _⟩ := h
    rfl
  · obtain ⟨a, r, ss, t, u, rfl, hT, ⟨as, hrow, hss⟩, ok, hl, tk, e, q⟩ := h
    refine ⟨_, (pss_cons (ps_set (i := 2) sc_Tree_behind.nd rfl (.inl rfl) (pv 0))
        (pss_cons (ps_for PassesOwn.never rfl (pi_list (pv 1)) (pg_name (i := 3) sc_Tree_behind.nd rfl (.inl rfl)) (pss_one (ps_set (i := 2) sc_Tree_behind.nd rfl (.inl rfl) (pe_meth (pv 2) X.cl_Tree X.m_Tree_applied.m (ok_Tree_applied X) (hr.mono (by decide)) X.m_Tree_applied.b .nil pass0 (pa_cons (pv 3) pa_nil)))))
        (pss_one (ps_ret (pv 2))))), ?_⟩
    refine ⟨_, rfl, _, rfl, r, rfl, ⟨_, SqL.of hrow⟩, for_it walk_list (fun i σ H' => ∃ (c : Addr) (v : Option V) (w : Tr'), σ = [some (.ref a), some (.ref r), some (.ref c), v] ∧ Same H H' ∧ appliedAll t (ss.take i) = some w ∧ TreeAt K X.C_Tree H' c w)
      ⟨a, none, t, rfl, Same.refl H, rfl, hT⟩ (fun i σ H' _ ⟨_, _, _, _, s1, _⟩ => SqL.of (s1 _ _ hrow)) ?_ ?_⟩
    · rintro i x σ H1 H2 hi ⟨c, v, w, rfl, s1, ew, hw⟩ ⟨rfl, hx⟩
      obtain ⟨b, hb, rfl⟩ := ref_get hx
      obtain ⟨s, es, hs⟩ := hss.get hb
      have mem : s ∈ ss := List.mem_of_getElem? es
      obtain ⟨w', ew'⟩ := apa_take e (i + 1)
      have ew2 := ew'
      rw [RM.take_more es, RM.apa_app_iff] at ew2
      obtain ⟨w2, e1, e2⟩ := ew2
      rw [ew] at e1
      cases e1
      obtain ⟨w3, e3, e4⟩ := RM.apa_cons.mp e2
      cases e4
      have tw : TOk 2000 w := (apa_ok tk (fun z hz => ok z (List.mem_of_mem_take hz)) ew).mono (by
        rw [List.length_take]
        omega)
      obtain ⟨dx, d, kvs, hw⟩ := hw
      refine r_tmeth hw ?_
      refine ⟨_, rfl, ?_⟩
      refine ⟨c, b, s, w, w', rfl, ⟨dx, d, kvs, hw⟩, hs.same s1, ok s mem, tw, e3, fun H3 v3 s3 r3 => ?_⟩
      obtain ⟨c2, rfl, h2⟩ := r3
      exact ⟨c2, _, w', rfl, s1.trans s3, ew', h2⟩
    · rintro σ H1 ⟨c, v, w, rfl, s1, ew, hw⟩
      rw [List.length_map, hss.len, List.take_length, e] at ew
      cases ew
      exact ⟨_, rfl, q H1 _ s1 ⟨c, rfl, hw⟩⟩
theorem sorted_same : ∀ {l m : List Nat}, l.Pairwise (· < ·) → m.Pairwise (· < ·) → (∀ x, x ∈ l ↔ x ∈ m) → l = m
  | [], [], _, _, _ => rfl
  | [], y :: m, _, _, h => by simpa using (h y).mpr List.mem_cons_self
  | x :: l, [], _, _, h => by simpa using (h x).mp List.mem_cons_self
  | x :: l, y :: m, hl, hm, h => by
    rw [List.pairwise_cons] at hl hm
    have e : x = y := by
      have h1 := (h x).mp List.mem_cons_self
      have h2 := (h y).mpr List.mem_cons_self
      rcases List.mem_cons.mp h1 with e | h1
      · exact e
      · rcases List.mem_cons.mp h2 with e | h2
        · exact e.symm
        · have := hm.1 x h1
          have := hl.1 y h2
          omega
    subst e
    have : l = m := sorted_same hl.2 hm.2 fun z => by
      constructor
      · intro hz
        have := (h z).mp (List.mem_cons_of_mem _ hz)
        rcases List.mem_cons.mp this with e | k
        · have := hl.1 z hz
          omega
        · exact k
      · intro hz
        have := (h z).mpr (List.mem_cons_of_mem _ hz)
        rcases List.mem_cons.mp this with e | k
        · have := hm.1 z hz
          omega
        · exact k
    rw [this]
theorem fi_at {t : Tr'} (s : Srt t) {x : Nat × Tokens} (h : x ∈ t) : fileIn t x.1 = some x.2 := by
  cases e : fileIn t x.1 with
  | none => exact (fi_iff.mp e x h rfl).elim
  | some c =>
    have m := RM.fi_mem e
    unfold Srt at s
    clear e
    induction t with
    | nil => cases h
    | cons y t ih =>
      rw [List.pairwise_cons] at s
      rcases List.mem_cons.mp h with rfl | h
      · rcases List.mem_cons.mp m with q | m
        · rw [← q]
        · have := s.1 _ m
          simp only at this
          omega
      · rcases List.mem_cons.mp m with q | m
        · have := s.1 _ h
          rw [← q] at this
          simp only at this
          omega
        · exact ih s.2 h m
def sp_Tree_numbers (X : Txt K mg) : Sp := fun vs H Q _ => ∃ (a : Addr) (t : Tr'), vs = [.ref a] ∧ TreeAt K X.C_Tree H a t ∧ TOk 2000 t ∧ Post H Q (LstN H ((flatTree t).map V.int))
def flatFiles (t : Tr') : List Int := t.flatMap fun x => (x.1 : Int) :: VapatBase.listed x.2
theorem flat_len {n : Nat} : ∀ {t : Tr'}, (∀ x ∈ t, x.2.length ≤ n) → (flatFiles t).length ≤ (n + 2) * t.length
  | [], _ => Nat.zero_le _
  | x :: t, h => by
    have ih := flat_len (t := t) fun y hy => h y (List.mem_cons_of_mem _ hy)
    have hx := h x List.mem_cons_self
    have em : (n + 2) * (x :: t).length = (n + 2) * t.length + (n + 2) := by rw [List.length_cons, Nat.mul_succ]
    unfold flatFiles at ih ⊢
    have el : (VapatBase.listed x.2).length = x.2.length + 1 := by simp [VapatBase.listed, VapatBase.ints]
    rw [List.flatMap_cons, List.length_append, List.length_cons, em, el]
    omega
theorem ok_Tree_numbers (X : Txt K mg) : FnOk P w K mg base CX0 1 X.m_Tree_numbers.f X.m_Tree_numbers.fd ["self"] (sp_Tree_numbers X) := by
  refine X.m_Tree_numbers.F.ok sc_Tree_numbers (fun vs H Q E h => ?_) (fun cdv A outer s0 H vs Q E hr h => ?_)
  · obtain ⟨a, t, rfl, _⟩ := h
    rfl
  · obtain ⟨a, t, rfl, ⟨dx, d, kvs, ht⟩, tk, q⟩ := h
    refine ⟨_, (pss_cons (ps_set (i := 1) sc_Tree_numbers.nd rfl (.inl rfl) (pe_lst (pa_cons (pe_callB call_lenD (by rfl) X.b_len (by decide +kernel) (pa_cons (pe_fld (pv 0) rfl) pa_nil)) pa_nil)))
        (pss_cons (ps_for PassesOwn.never rfl (pi_list (pe_callB (call_sortedDI rfl) (by rfl) X.b_sorted (by decide +kernel) (pa_cons (pe_fld (pv 0) rfl) pa_nil))) (pg_name (i := 2) sc_Tree_numbers.nd rfl (.inl rfl)) (pss_one (ps_set (i := 1) sc_Tree_numbers.nd rfl (.inl rfl) (pe_op op_cat (pe_op op_cat (pv 1) (pe_lst (pa_cons (pv 2) (pa_cons (pe_callB call_len_seq (by rfl) X.b_len (by decide +kernel) (pa_cons (pe_dgetA (pe_fld (pv 0) rfl) (pv 2) (fun _ _ => rfl) (hu_of hr)) pa_nil)) pa_nil)))) (pe_callTy call_list_of (by rfl) X.b_list (by decide +kernel) (pa_cons (pe_dgetA (pe_fld (pv 0) rfl) (pv 2) (fun _ _ => rfl) (hu_of hr)) pa_nil))))))
        (pss_one (ps_ret (pv 1))))), ?_⟩
    have lk : kvs.length = t.length := ht.files.len
    have l10 := tk.len
    refine r_files X ht ?_
    refine ⟨d, kvs, rfl, ht.dic, ?_⟩
    refine ⟨(by show 1 ≤ sizeLine; decide), fun p0 n0 => ?_⟩
    refine alloc n0 fun H0 s0 e0 => ?_
    refine r_files X (ht.same s0) ?_
    obtain ⟨ks, hks⟩ : ∃ ks : List Int, kvs.map (·.1) = ks.map Sum.inl := by
      have : ∀ k ∈ kvs.map (·.1), ∃ n : Nat, k = kI n := fun k hk => by
        obtain ⟨x, _, ex⟩ := List.mem_map.mp (ht.files.perm.mem_iff.mp hk)
        exact ⟨x.1, ex.symm⟩
      clear lk
      generalize kvs.map (·.1) = l at this
      induction l with
      | nil => exact ⟨[], rfl⟩
      | cons k l ih =>
        obtain ⟨ks, e⟩ := ih fun k hk => this k (List.mem_cons_of_mem _ hk)
        obtain ⟨n, rfl⟩ := this k List.mem_cons_self
        exact ⟨(n : Int) :: ks, by rw [List.map_cons, e]⟩
    have lks : ks.length = t.length := by
      have := congrArg List.length hks
      rw [List.length_map, List.length_map] at this
      omega
    refine ⟨d, kvs, ks, rfl, .inl (s0 _ _ ht.dic), hks, by omega, fun ys p1 hp hs1 n1 => ?_⟩
    have eys : ys = t.map fun x => (x.1 : Int) := by
      have nn : ∀ y ∈ ys, ∃ n : Nat, y = (n : Int) ∧ n ∈ t.map (·.1) := fun y hy => by
        have h1 : Sum.inl y ∈ kvs.map (·.1) := by rw [hks]; exact List.mem_map.mpr ⟨y, hp.mem_iff.mp hy, rfl⟩
        obtain ⟨x, hx, ex⟩ := List.mem_map.mp (ht.files.perm.mem_iff.mp h1)
        exact ⟨x.1, (Sum.inl.inj ex).symm, List.mem_map.mpr ⟨x, hx, rfl⟩⟩
      have e1 : ys = (ys.map Int.toNat).map Int.ofNat := by
        rw [List.map_map]
        conv => lhs; rw [← List.map_id ys]
        refine List.map_congr_left fun y hy => ?_
        obtain ⟨n, rfl, _⟩ := nn y hy
        rfl
      have ndk : ks.Nodup := by
        have := ht.files.nodup tk.srt
        rw [hks] at this
        rw [List.nodup_iff_pairwise_ne, List.pairwise_map] at this
        rw [List.nodup_iff_pairwise_ne]
        exact this.imp fun h e => h (by rw [e])
      have e2 : ys.map Int.toNat = t.map (·.1) := by
        refine sorted_same ?_ ?_ fun x => ?_
        · have nd : ys.Nodup := hp.nodup_iff.mpr ndk
          rw [List.pairwise_map]
          rw [List.nodup_iff_pairwise_ne] at nd
          have both := hs1.and nd
          refine (List.pairwise_iff_forall_sublist.mpr fun {x y} hsub => ?_)
          have h1 := (List.pairwise_iff_forall_sublist.mp both) hsub
          obtain ⟨n, e, _⟩ := nn x (hsub.subset (by simp))
          obtain ⟨m, e', _⟩ := nn y (hsub.subset (by simp))
          omega
        · rw [List.pairwise_map]
          exact tk.srt
        · constructor
          · intro hx
            obtain ⟨y, hy, rfl⟩ := List.mem_map.mp hx
            obtain ⟨n, rfl, h⟩ := nn y hy
            exact h
          · intro hx
            obtain ⟨z, hz, rfl⟩ := List.mem_map.mp hx
            have h1 : kI z.1 ∈ kvs.map (·.1) := ht.files.perm.mem_iff.mpr (List.mem_map.mpr ⟨z, hz, rfl⟩)
            rw [hks] at h1
            obtain ⟨y, hy, ey⟩ := List.mem_map.mp h1
            have := Sum.inl.inj ey
            refine List.mem_map.mpr ⟨y, hp.mem_iff.mpr hy, ?_⟩
            rw [this]
            rfl
      rw [e1, e2, List.map_map]
      rfl
    refine alloc n1 fun H1 s1 e1 => ?_
    have s01 := s0.trans s1
    refine ⟨p1, rfl, ⟨_, SqL.of e1⟩, for_it walk_list (fun i σ H' => ∃ (c : Addr) (v : Option V), σ = [some (.ref a), some (.ref c), v] ∧ Same H1 H' ∧ H c = none ∧ H' c = some (.lst ((((t.length : Nat) : Int) :: flatFiles (t.take i)).map V.int)))
      ⟨p0, none, rfl, Same.refl H1, n0, by rw [s1 _ _ e0, lk]; rfl⟩ (fun i σ H' _ ⟨_, _, _, s2, _⟩ => SqL.of (s2 _ _ e1)) ?_ ?_⟩
    · rintro i x σ H2 H3 hi ⟨c, v, rfl, s2, nc, ec⟩ ⟨rfl, hx⟩
      rw [eys, List.map_map, List.getElem?_map] at hx
      obtain ⟨z, hz, rfl⟩ : ∃ z, t[i]? = some z ∧ x = vN z.1 := by
        cases e : t[i]? with
        | none => rw [e] at hx; cases hx
        | some z => rw [e] at hx; exact ⟨z, rfl, (Option.some.inj hx).symm⟩
      have mz : z ∈ t := List.mem_of_getElem? hz
      have lz := tk.tk z mz
      have s02 := s01.trans s2
      have ht2 := ht.same s02
      obtain ⟨b, hb, hc⟩ := ht2.files.val z.1 z.2 (fi_at tk.srt mz)
      have lf : (flatFiles (t.take i)).length ≤ 2002 * 10 := by
        refine Nat.le_trans (flat_len (n := 2000) fun y hy => tk.tk y (List.mem_of_mem_take hy)) ?_
        rw [List.length_take]
        omega
      refine ⟨_, rfl, _, rfl, ?_⟩
      refine r_files X ht2 ?_
      refine ⟨_, rfl, d, .ref b, rfl, by rw [← hb]; exact DGet.k (k := kI z.1) ht2.dic, ?_⟩
      refine ⟨_, _, rfl, .inr hc, ?_⟩
      refine ⟨(by show 2 ≤ sizeLine; decide), fun p3 n3 => ?_⟩
      refine alloc n3 fun H3 s3 e3 => ?_
      refine ⟨_, _, _, _, rfl, rfl, s3 _ _ ec, e3, line_le (by simp only [List.length_map, List.length_cons, List.length_nil]; omega), fun p4 n4 => ?_⟩
      refine alloc n4 fun H4 s4 e4 => ?_
      have s24 := s3.trans s4
      have ht4 := ht2.same s24
      refine r_files X ht4 ?_
      refine ⟨_, rfl, d, .ref b, rfl, by rw [← hb]; exact DGet.k (k := kI z.1) ht4.dic, ?_⟩
      refine ⟨_, _, rfl, .inr (sqT_same s24 hc), fun p5 n5 => ?_⟩
      refine alloc n5 fun H5 s5 e5 => ?_
      refine ⟨_, _, _, _, rfl, rfl, s5 _ _ e4, e5, line_le (by simp only [List.length_append, List.length_map, List.length_cons, List.length_nil, tok_len]; omega), fun p6 n6 => ?_⟩
      refine alloc n6 fun H6 s6 e6 => ?_
      refine ⟨p6, _, rfl, (s2.trans s24).trans (s5.trans s6), s02.free (s24.free (s5.free n6)), ?_⟩
      rw [e6, RM.take_more hz]
      simp [flatFiles, VapatBase.listed, VapatBase.ints, VapatBase.int, tok, Function.comp_def]
    · rintro σ H2 ⟨c, v, rfl, s2, nc, ec⟩
      have el : (ys.map V.int).length = t.length := by rw [eys, List.length_map, List.length_map]
      rw [el, List.take_length] at ec
      refine ⟨_, rfl, q H2 _ (s01.trans s2) ⟨c, rfl, ?_, nc⟩⟩
      rw [ec]
      rfl
/-- a tree, or None -/
def TreeO (K : PySem.W.Frag) (C : Addr) (t : Option Tr') (H : Hp) (v : V) : Prop := match t with
  | none => v = .non
  | some t => ∃ a, v = .ref a ∧ TreeAt K C H a t
theorem put_last {f : Nat} {c : Tokens} : ∀ {t : Tr'}, (∀ x ∈ t, x.1 < f) → putFile f c t = t ++ [(f, c)]
  | [], _ => rfl
  | x :: t, h => by
    have hx := h x List.mem_cons_self
    simp only [putFile]
    rw [if_neg (by omega), if_neg (by omega), put_last fun y hy => h y (List.mem_cons_of_mem _ hy)]
    rfl
def sp_read_tree (X : Txt K mg) : Sp := fun vs H Q _ => ∃ (a : Addr) (ns : List Int), vs = [.ref a] ∧ SqL K H a (ns.map V.int) ∧ ns.length ≤ 1000 ∧ Post H Q (TreeO K X.C_Tree (treeOf ns))
/-- how the rest of the turns goes on -/
def GoesOn (ns : List Int) (n i at_ : Nat) (last : Int) (acc : Tr') : Prop := i ≤ n ∧ treeGo ns n 1 (-1) [] = treeGo ns (n - i) at_ last acc
theorem ok_read_tree (X : Txt K mg) : FnOk P w K mg base CX0 4 X.d_read_tree.f X.d_read_tree.fd ["numbers"] (sp_read_tree X) := by
  refine X.d_read_tree.F.ok sc_read_tree (fun vs H Q E h => ?_) (fun cdv A outer s0 H vs Q E hr h => ?_)
  · obtain ⟨a, ns, rfl, _⟩ := h
    rfl
  · obtain ⟨a, ns, rfl, hS, hl, q⟩ := h
    refine ⟨_, (pss_cons (ps_if (PW.pt (pw_or (pt_cmpR op_eq (pe_callB call_len_seq (by rfl) X.b_len (by decide +kernel) (pa_cons (pv 0) pa_nil)) pe_int (nomark _)) (pw_or1 (pt_not (pt_chain op_le op_le pe_int (pe_ix ix_list (pv 0) pe_int (fun _ _ => rfl)) (pe_glob (v := .int 6) rfl X.c_MOST_FILES.h ⟨_, rfl⟩)))))) (pss_one (ps_ret pe_non)) pss_nil)
        (pss_cons (ps_set (i := 1) sc_read_tree.nd rfl (.inl rfl) pe_dnewK)
        (pss_cons (ps_set (i := 2) sc_read_tree.nd rfl (.inl rfl) pe_int)
        (pss_cons (ps_set (i := 3) sc_read_tree.nd rfl (.inl rfl) (pe_un un_neg pe_int))
        (pss_cons (ps_for PassesOwn.never rfl (pi_range1 (by rfl) X.b_range (pa_cons (pe_ix ix_list (pv 0) pe_int (fun _ _ => rfl)) pa_nil)) (pg_name (i := 4) sc_read_tree.nd rfl (.inl rfl)) (pss_cons (ps_if (PW.pt (pw_or (pt_cmpR op_ge (pv 2) (pe_callB call_len_seq (by rfl) X.b_len (by decide +kernel) (pa_cons (pv 0) pa_nil)) (nomark _)) (pw_or (pt_not (pt_val (pe_call (ok_is_name X) (hr.mono (by decide)) rfl X.d_is_name.g X.d_is_name.F.kp X.d_is_name.b .nil pass0 (pa_cons (pe_ix ix_list (pv 0) (pv 2) (fun _ _ => rfl)) pa_nil)))) (pw_or1 (pt_cmpR op_le (pe_ix ix_list (pv 0) (pv 2) (fun _ _ => rfl)) (pv 3) (nomark _)))))) (pss_one (ps_ret pe_non)) pss_nil)
        (pss_cons (ps_set (i := 3) sc_read_tree.nd rfl (.inl rfl) (pe_ix ix_list (pv 0) (pv 2) (fun _ _ => rfl)))
        (pss_cons (ps_set (i := 5) sc_read_tree.nd rfl (.inl rfl) (pe_call (ok_counted_row X) (hr.mono (by decide)) rfl X.d_counted_row.g X.d_counted_row.F.kp X.d_counted_row.b .nil pass0 (pa_cons (pv 0) (pa_cons (pe_op op_add (pv 2) pe_int) (pa_cons (pe_glob (v := .int 12) rfl X.c_MOST_IN_FILE.h ⟨_, rfl⟩) pa_nil)))))
        (pss_cons (ps_if (pt_cmp (pc_isN (pv 5)) rfl) (pss_one (ps_ret pe_non)) pss_nil)
        (pss_cons (ps_dput (hu_of hr) (pv 1) (pv 3) (pv 5) rfl)
        (pss_one (ps_set (i := 2) sc_read_tree.nd rfl (.inl rfl) (pe_op op_add (pe_op op_add (pv 2) pe_int) (pe_callB call_len_seq (by rfl) X.b_len (by decide +kernel) (pa_cons (pv 5) pa_nil)))))))))))
        (pss_cons (ps_if (pt_cmpR op_ne (pv 2) (pe_callB call_len_seq (by rfl) X.b_len (by decide +kernel) (pa_cons (pv 0) pa_nil)) (nomark _)) (pss_one (ps_ret pe_non)) pss_nil)
        (pss_one (ps_ret (pe_make X.mk_Tree (ok_Tree_init X) (hr.mono (by decide)) rfl X.g_Tree X.m_Tree_init.b .nil pass0 (pa_cons (pv 1) pa_nil)))))))))), ?_⟩
    have ln : (ns.map V.int).length = ns.length := List.length_map ..
    unfold treeOf at q
    refine ⟨_, rfl, _, _, rfl, .inl hS, rfl, _, rfl, ?_⟩
    rw [dec_i, ln]
    by_cases c1 : ns.length = 0
    · rw [if_pos c1] at q
      exact ifT (by rw [c1]; rfl) (ifT rfl (q H _ (Same.refl H) rfl))
    · rw [if_neg c1] at q
      have a0 : atI (ns.map V.int) 0 = some (.int (at0 ns 0)) := at_i (i := 0) (by omega) rfl
      have bad : ¬ (0 ≤ at0 ns 0 ∧ at0 ns 0 ≤ 6) → Q .non H := fun h => by
        rw [if_neg h] at q
        exact q H _ (Same.refl H) rfl
      refine ifF (decide_eq_false (by omega)) ⟨_, rfl, _, _, _, _, rfl, rfl, hS, a0, _, _, rfl, rfl, _, rfl, ?_⟩
      by_cases c2 : 0 ≤ at0 ns 0
      · refine ifT (decide_eq_true c2) ⟨_, _, rfl, rfl, _, rfl, ?_⟩
        by_cases c3 : at0 ns 0 ≤ 6
        · refine ifF (by show (!decide (at0 ns 0 ≤ 6)) = false; rw [decide_eq_true c3]; rfl) ?_
          rw [if_pos ⟨c2, c3⟩] at q
          intro d hd
          have s0 : Same H (upd H d (.dK [])) := same_upd hd
          refine ⟨_, rfl, ?_⟩
          refine ⟨_, rfl, _, _, _, _, rfl, rfl, s0.seq hS, a0, _, rfl, (by omega), (by omega), ?_⟩
          refine for_it walk_range (fun i σ H' => ∃ (at_ : Nat) (last : Int) (v5 v6 : Option V) (acc : Tr') (kvs : List (Key × V)), σ = [some (.ref a), some (.ref d), some (vN at_), some (.int last), v5, v6] ∧ Same H H' ∧ H' d = some (.dK kvs) ∧ FilesAt K H' kvs acc ∧ RM.Fresh acc ∧ (∀ x ∈ acc, (x.1 : Int) ≤ last) ∧ acc.length ≤ i ∧ GoesOn ns (at0 ns 0).toNat i at_ last acc)
            ⟨1, -1, none, none, [], [], rfl, s0, upd_same, ⟨.refl _, fun f c e => by cases e⟩, ⟨List.Pairwise.nil, fun _ h => (nomatch h), fun _ h => (nomatch h)⟩, fun _ h => (nomatch h), Nat.le_refl _, Nat.zero_le _, rfl⟩ (fun _ _ _ _ _ => trivial) ?_ ?_
          · rintro i x σ H1 H2 hi ⟨at_, last, v5, v6, acc, kvs, rfl, s1, ed, hF, hfr, hla, hli, hin, hgo⟩ ⟨rfl, rfl⟩
            have en : (at0 ns 0).toNat - i = ((at0 ns 0).toNat - (i + 1)) + 1 := by omega
            rw [en] at hgo
            simp only [treeGo] at hgo
            have out : treeGo ns (at0 ns 0).toNat 1 (-1) [] = none → Q .non H2 := fun h => by
              rw [h] at q
              exact q H2 _ s1 rfl
            refine ⟨_, rfl, _, rfl, _, _, rfl, .inl (s1.seq hS), _, _, rfl, rfl, _, rfl, ?_⟩
            rw [ln]
            by_cases d1 : (at_ : Int) ≥ ((ns.length : Nat) : Int)
            · refine ifT (decide_eq_true d1) (ifT rfl (out ?_))
              have en2 : ns[at_]? = none := List.getElem?_eq_none_iff.mpr (by omega)
              rw [en2] at hgo
              exact hgo
            · have hat : at_ < ns.length := by omega
              have eat : ns[at_]? = some (at0 ns at_) := by simp [at0, List.getElem?_eq_getElem hat]
              have aat : atI (ns.map V.int) (at_ : Int) = some (.int (at0 ns at_)) := at_i hat rfl
              rw [eat] at hgo
              simp only at hgo
              refine ifF (decide_eq_false d1) ⟨_, rfl, _, rfl, _, _, _, _, rfl, rfl, s1.seq hS, aat, _, rfl, _, rfl, ?_⟩
              generalize at0 ns at_ = f at hgo aat
              by_cases d2 : isNm f = true
              · rw [if_pos d2] at hgo
                refine ifF (by rw [d2]; rfl) ⟨_, rfl, _, rfl, _, _, _, _, rfl, rfl, s1.seq hS, aat, _, rfl, _, _, rfl, rfl, _, rfl, ?_⟩
                by_cases d3 : f ≤ last
                · rw [if_pos d3] at hgo
                  exact ifT (decide_eq_true d3) (out hgo)
                · rw [if_neg d3] at hgo
                  refine ifF (decide_eq_false d3) ⟨_, rfl, _, rfl, _, _, _, _, rfl, rfl, s1.seq hS, aat, ?_⟩
                  refine ⟨_, rfl, _, rfl, _, _, rfl, rfl, a, ns, at_ + 1, 12, rfl, s1.seq hS, hl, fun H3 v3 s3 r3 => ?_⟩
                  cases ec : counted ns (at_ + 1) 12 with
                  | none =>
                    rw [ec] at r3 hgo
                    cases (show v3 = .non from r3)
                    refine ⟨_, rfl, _, rfl, ?_⟩
                    refine ifT rfl ?_
                    rw [hgo] at q
                    exact q H3 _ (s1.trans s3) rfl
                  | some l =>
                    rw [ec] at r3 hgo
                    simp only at hgo
                    obtain ⟨b, rfl, hb⟩ := r3
                    refine ⟨_, rfl, _, rfl, ?_⟩
                    refine ifF rfl ?_
                    obtain ⟨l1, l2, l3⟩ := RM.counted_len ec
                    have nn := RM.nm_iff.mp d2
                    simp only [VapatBase.int, VapatBase.NAMES] at nn
                    have ff : f = ((f.toNat : Nat) : Int) := by omega
                    have hla' : ∀ x ∈ acc, x.1 < f.toNat := fun x hx => by
                      have := hla x hx
                      omega
                    have lkv : kvs.length ≤ 6 := by rw [hF.len]; omega
                    have eF : fileIn acc f.toNat = none := fi_iff.mpr fun x hx => by
                      have := hla' x hx
                      omega
                    have ed3 : H3 d = some (.dK kvs) := s3 _ _ ed
                    refine ⟨_, rfl, _, rfl, _, rfl, d, upd H3 d (.dK (putK kvs (kI f.toNat) (.ref b))), rfl, ?_, ?_⟩
                    · rw [ff]
                      exact DPut.k (k := kI f.toNat) ed3 (line_lt (by omega))
                    · have sD : Soft H3 d := .inr ⟨_, ed3⟩
                      have hF3 := (hF.same s3)
                      have hF4 : FilesAt K (upd H3 d (.dK (putK kvs (kI f.toNat) (.ref b)))) (putK kvs (kI f.toNat) (.ref b)) (acc ++ [(f.toNat, l)]) := by
                        rw [← put_last hla']
                        refine FilesAt.put ⟨hF3.perm, fun g c e => ?_⟩ hfr.srt (sqT_off sD Off.upd hb)
                        obtain ⟨r, h1, h2⟩ := hF3.val g c e
                        exact ⟨r, h1, sqT_off sD Off.upd h2⟩
                      refine ⟨_, rfl, _, _, rfl, rfl, _, rfl, _, _, rfl, .inr (sqT_off sD Off.upd hb), _, _, rfl, rfl, ?_⟩
                      refine ⟨at_ + 2 + l.length, f, some (.int (0 + (i : Int))), some (.ref b), acc ++ [(f.toNat, l)], _, ?_, same_off (s1.trans s3) hd Off.upd, upd_same, hF4, ?_, ?_, ?_, by omega, hgo⟩
                      · have : (at_ : Int) + 2 + ((tok l).length : Int) = ((at_ + 2 + l.length : Nat) : Int) := by
                          rw [tok_len]
                          omega
                        show [some (V.ref a), some (V.ref d), some (V.int ((at_ : Int) + 2 + ((tok l).length : Int))), some (V.int f), some (V.int (0 + (i : Int))), some (V.ref b)] = _
                        rw [this]
                      · refine ⟨?_, ?_, ?_⟩
                        · refine List.pairwise_append.mpr ⟨hfr.srt, List.pairwise_singleton _ _, fun x hx y hy => ?_⟩
                          rw [List.mem_singleton.mp hy]
                          exact hla' x hx
                        · intro x hx
                          rcases List.mem_append.mp hx with hx | hx
                          · exact hfr.nm x hx
                          · rw [List.mem_singleton.mp hx]
                            show f.toNat < 10
                            omega
                        · intro x hx
                          rcases List.mem_append.mp hx with hx | hx
                          · exact hfr.tk x hx
                          · rw [List.mem_singleton.mp hx]
                            exact l1
                      · intro x hx
                        rcases List.mem_append.mp hx with hx | hx
                        · have := hla x hx
                          omega
                        · rw [List.mem_singleton.mp hx]
                          show ((f.toNat : Nat) : Int) ≤ f
                          omega
                      · rw [List.length_append, List.length_singleton]
                        omega
              · rw [if_neg d2] at hgo
                exact ifT (by simpa using d2) (ifT rfl (out hgo))
          · rintro σ H1 ⟨at_, last, v5, v6, acc, kvs, rfl, s1, ed, hF, hfr, hla, hli, hin, hgo⟩
            have q1 := fun v => q H1 v s1
            rw [Nat.sub_self] at hgo
            simp only [treeGo] at hgo
            rw [hgo] at q
            simp only at q
            refine ⟨_, rfl, _, rfl, _, _, rfl, .inl (s1.seq hS), rfl, _, rfl, ?_⟩
            rw [dec_i, ln]
            by_cases c4 : at_ ≠ ns.length
            · rw [if_pos c4] at q
              refine ifT ?_ (q H1 _ s1 rfl)
              rw [decide_eq_false (by omega)]
              rfl
            · rw [if_neg c4] at q
              refine ifF ?_ ⟨_, rfl, ?_⟩
              · rw [decide_eq_true (by omega)]
                rfl
              exact make_tree X ed hF (fun H' v s r => q H' v (s1.trans s) r)
        · refine ifT (by show (!decide (at0 ns 0 ≤ 6)) = true; rw [decide_eq_false c3]; rfl) ?_
          exact bad fun h => c3 h.2
      · refine ifF (decide_eq_false c2) ⟨_, rfl, ?_⟩
        exact ifT rfl (bad fun h => c2 h.1)
end
end Rw

/-! part RwComm -/
set_option Elab.async false
set_option linter.all false
set_option maxRecDepth 100000
set_option maxHeartbeats 4000000
namespace Rw
open PySem PySem.Spec PyProof.Rows L2
open VapatBase (Tokens)
/-! Steps commuted. -/
open VapatBase (swapAll namesOf disjoint isInside inFile commutedInside)
abbrev cmt := VapatBase.commuted
/-! ### the bounds of steps -/
def BOk : RM.Body → Prop
  | .h _ o n => o.length ≤ 8 ∧ n.length ≤ 8
  | .s _ _ => True
theorem ok_i {f : Nat} {b : RM.Body} : Okk (RM.ins f b) ↔ f < 10 ∧ BOk b := by
  cases b with
  | h a o n => exact Iff.rfl
  | s x y => exact ⟨fun h => ⟨h, trivial⟩, fun h => h.1⟩
theorem ok_r {f : Nat} {k : Bool} : Okk (RM.rig k f) ↔ f < 10 := by cases k <;> exact Iff.rfl
theorem b_ok {b c c' b' : RM.Body} (h : RM.bcomm b c = some (c', b')) (h1 : BOk b) (h2 : BOk c) : BOk c' ∧ BOk b' := by
  cases b <;> cases c <;> simp only [RM.bcomm] at h
  · split at h
    · simp only [Option.some.injEq, Prod.mk.injEq] at h
      obtain ⟨rfl, rfl⟩ := h
      exact ⟨h2, h1⟩
    · split at h
      · simp only [Option.some.injEq, Prod.mk.injEq] at h
        obtain ⟨rfl, rfl⟩ := h
        exact ⟨h2, h1⟩
      · cases h
  · simp only [Option.some.injEq, Prod.mk.injEq] at h
    obtain ⟨rfl, rfl⟩ := h
    exact ⟨trivial, by simp only [BOk, RM.sw_len]; exact h1⟩
  · simp only [Option.some.injEq, Prod.mk.injEq] at h
    obtain ⟨rfl, rfl⟩ := h
    exact ⟨by simp only [BOk, RM.sw_len]; exact h2, trivial⟩
  · split at h
    · cases h
    · simp only [Option.some.injEq, Prod.mk.injEq] at h
      obtain ⟨rfl, rfl⟩ := h
      exact ⟨trivial, trivial⟩
theorem ok_comm {p q q1 p1 : St'} (h : cmt p q = some (q1, p1)) (hp : Okk p) (hq : Okk q) : Okk q1 ∧ Okk p1 := by
  unfold cmt at h
  rcases RM.view p with ⟨f, b, rfl⟩ | ⟨k, f, rfl⟩ | ⟨f, f', rfl⟩ <;> rcases RM.view q with ⟨g, c, rfl⟩ | ⟨l, g, rfl⟩ | ⟨g, g', rfl⟩
  · obtain ⟨b', c', rfl, rfl, w⟩ := RM.ii_some h
    rw [ok_i] at hp hq
    rw [ok_i, ok_i]
    rcases w with ⟨rfl, w⟩ | ⟨_, rfl, rfl⟩
    · have := b_ok w hp.2 hq.2
      exact ⟨⟨hp.1, this.1⟩, hp.1, this.2⟩
    · exact ⟨hq, hp⟩
  all_goals (simp only [RM.cm_ir, RM.cm_ri, RM.cm_rr, RM.cm_im, RM.cm_mi, RM.cm_rm, RM.cm_mr, RM.cm_mm] at h)
  all_goals (repeat' split at h)
  all_goals (first | contradiction | (simp only [Option.some.injEq, Prod.mk.injEq] at h; obtain ⟨rfl, rfl⟩ := h))
  all_goals first
    | exact ⟨hq, hp⟩
    | (rw [ok_i] at hp; exact ⟨hq, ok_i.mpr ⟨hq.2, hp.2⟩⟩)
    | (rw [ok_i] at hq; exact ⟨ok_i.mpr ⟨hp.1, hq.2⟩, hp⟩)
theorem ok_turn {p : St'} (h : Okk p) : Okk (VapatBase.turned p) := by
  cases p with
  | hunk f a o n => exact ⟨h.1, h.2.2, h.2.1⟩
  | swap f x y => exact h
  | add f => exact h
  | remove f => exact h
  | move f g => exact ⟨h.2, h.1⟩
/-- two steps in a tuple, or None -/
def ResO (K : PySem.W.Frag) (C : Addr) (x : Option (St' × St')) (H : Hp) (v : V) : Prop := match x with
  | none => v = .non
  | some y => ∃ t c d, v = .ref t ∧ H t = some (.tup [.ref c, .ref d]) ∧ StepAt K C H c y.1 ∧ StepAt K C H d y.2
theorem inV_tok (n : Nat) (l : List Nat) : inV (vN n) (tok l) = l.contains n := by
  unfold inV tok
  rw [List.any_map]
  rw [Bool.eq_iff_iff, List.any_eq_true, List.contains_iff_mem]
  constructor
  · rintro ⟨x, hx, e⟩
    have : (x : Int) = (n : Int) := eq_of_beq (show ((x : Int) == (n : Int)) = true from e)
    have : x = n := by omega
    rw [← this]
    exact hx
  · intro h
    exact ⟨n, h, show ((n : Int) == (n : Int)) = true from beq_self_eq_true _⟩
theorem tok_flat : ∀ (l : List Nat), (tok l).all flatV = true
  | [] => rfl
  | _ :: l => tok_flat l
theorem contains_le {l : List Nat} {p : Nat → Bool} (n : Nat) (h : l.length ≤ n) : (l.filter p).length ≤ n := Nat.le_trans (List.length_filter_le _ _) h
theorem filtN_more {ns : List Nat} {i : Nat} {z : Nat} {p : Nat → Bool} (h : ns[i]? = some z) : (ns.take (i + 1)).filter p = (ns.take i).filter p ++ (if p z then [z] else []) := by
  rw [RM.take_more h, List.filter_append]
  congr 1
  rw [List.filter_cons]
  split <;> rfl
theorem names_len (s : St') : (namesOf s).length ≤ 2 := by cases s <;> simp [VapatBase.namesOf]
theorem disj_len (l m : List Nat) : decide ((((l.filter fun n => m.contains n).length : Nat) : Int) > 0) = !disjoint l m := by
  unfold disjoint
  rw [Bool.eq_iff_iff, decide_eq_true_eq, Bool.not_eq_true', List.all_eq_false]
  constructor
  · intro h
    obtain ⟨x, hx⟩ : ∃ x, x ∈ l.filter fun n => m.contains n := by
      cases e : l.filter fun n => m.contains n with
      | nil => rw [e] at h; simp at h
      | cons x r => exact ⟨x, by simp⟩
    obtain ⟨h1, h2⟩ := List.mem_filter.mp hx
    exact ⟨x, h1, by simpa using h2⟩
  · rintro ⟨x, h1, h2⟩
    have : x ∈ l.filter fun n => m.contains n := List.mem_filter.mpr ⟨h1, by simpa using h2⟩
    have := List.length_pos_of_mem this
    omega
section
variable {P : Program} {w : World} {K : PySem.W.Frag} {mg : Str → Option Value} {base : Heap}
def sp_have_name_in_common (X : Txt K mg) : Sp := fun vs H Q _ => ∃ (a b : Addr) (p q : St'), vs = [.ref a, .ref b] ∧ StepAt K X.C_Step H a p ∧ StepAt K X.C_Step H b q ∧ ∀ H' : Hp, Same H H' → Q (.bl (!disjoint (namesOf p) (namesOf q))) H'
theorem ok_have_name_in_common (X : Txt K mg) : FnOk P w K mg base CX0 2 X.d_have_name_in_common.f X.d_have_name_in_common.fd ["one", "other"] (sp_have_name_in_common X) := by
  refine X.d_have_name_in_common.F.ok sc_have_name_in_common (fun vs H Q E h => ?_) (fun cdv A outer s0 H vs Q E hr h => ?_)
  · obtain ⟨a, b, p, q, rfl, _⟩ := h
    rfl
  · obtain ⟨a, b, p, q, rfl, ⟨dx, o, w, hp⟩, hq, k⟩ := h
    refine ⟨_, (pss_one (ps_ret (pe_cmpR op_gt (pe_callB call_len_seq (by rfl) X.b_len (by decide +kernel) (pa_cons (pe_lc (own := [("name", 2)]) (tt := tTest (tOp (rIn K false) (tVar 2) (tMeth X.C_Step "names" (sp_Step_names X) [] E0 (tVar 1) tNil))) rfl sc_have_name_in_common.nd (pi_list (pe_meth0 (pv 0) X.cl_Step X.m_Step_names.m (ok_Step_names X) (hr.mono (by decide)) X.m_Step_names.b .nil pass0)) (blkOk_by (own := [("name", 2)]) (N := n_have_name_in_common) (sc := defScope s_have_name_in_common) (by decide +kernel)) (fun _ _ _ _ _ => (pg_name (i := 2) sc_have_name_in_common.nd rfl (.inl rfl))) (fun _ _ _ _ _ => (pts_one (pt_cmpR op_in_seq (pv 2) (pe_meth0 (pv 1) X.cl_Step X.m_Step_names.m (ok_Step_names X) (hr.mono (by decide)) X.m_Step_names.b .nil pass0) (by rfl)))) (fun _ _ _ _ _ => (pv 2))) pa_nil)) pe_int (nomark _)))), ?_⟩
    refine r_meth hp ?_
    refine ⟨a, p, rfl, ⟨dx, o, w, hp⟩, fun H1 v1 s1 r1 => ?_⟩
    obtain ⟨L, rfl, eL⟩ := r1
    refine ⟨L, rfl, ⟨_, SqL.of eL⟩, fun D hD => ?_⟩
    refine lc_it walk_list (fun i H' => Same H1 H' ∧ H' D = some (.lst (tok (((namesOf p).take i).filter fun n => (namesOf q).contains n)))) ⟨same_upd hD, upd_same⟩ (fun i H' _ h => SqL.of (h.1 _ _ eL)) ?_ ?_
    · rintro i x H2 H3 hi ⟨s2, eD⟩ ⟨rfl, hx⟩
      obtain ⟨n, hn, rfl⟩ := tok_get hx
      have s12 := s1.trans s2
      obtain ⟨dx2, o2, w2, hq2⟩ := hq.same s12
      refine ⟨rfl, _, rfl, ?_⟩
      refine r_meth hq2 ?_
      refine ⟨b, q, rfl, ⟨dx2, o2, w2, hq2⟩, fun H4 v4 s4 r4 => ?_⟩
      obtain ⟨M, rfl, eM⟩ := r4
      refine ⟨M, _, rfl, .inl (SqL.of eM), rfl, tok_flat _, _, rfl, ?_⟩
      have fm := filtN_more (p := fun n => (namesOf q).contains n) hn
      have e : inV (vN n) (tok (namesOf q)) = (namesOf q).contains n := inV_tok _ _
      by_cases c : (namesOf q).contains n = true
      · refine ifT (e.trans c) ⟨_, rfl, _, s4 _ _ eD, line_lt ?_, same_off (s2.trans s4) hD Off.upd, ?_⟩
        · rw [tok_len]
          exact contains_le _ (Nat.le_trans (List.length_take_le' _ _) (Nat.le_trans (names_len p) (by decide)))
        · rw [upd_same, fm, if_pos c]
          simp [tok]
      · refine ifF (e.trans (by simpa using c)) ⟨s2.trans s4, ?_⟩
        rw [fm, if_neg c, List.append_nil]
        exact s4 _ _ eD
    · rintro H2 ⟨s2, eD⟩
      refine ⟨D, _, rfl, .inl (SqL.of eD), _, _, rfl, rfl, ?_⟩
      have := k H2 (s1.trans s2)
      rw [← disj_len] at this
      rw [tok_len, tok_len, List.take_length]
      exact this
theorem pair_new {C : Addr} {H0 H : Hp} {Q : VK} {x : Option (St' × St')} {y : St' × St'} {c d p : Addr} (n : H p = none) (s : Same H0 H) (e : x = some y) (h1 : StepAt K C H c y.1) (h2 : StepAt K C H d y.2) (q : Post H0 Q (ResO K C x)) : Q (.ref p) (upd H p (.tup [.ref c, .ref d])) := by
  subst e
  have sm : Same H (upd H p (.tup [.ref c, .ref d])) := same_upd n
  exact q _ _ (s.trans sm) ⟨p, c, d, rfl, upd_same, h1.same sm, h2.same sm⟩
def sp_hunks_commuted (X : Txt K mg) : Sp := fun vs H Q _ => ∃ (a b : Addr) (f i j : Nat) (o n u v : Tokens), vs = [.ref a, .ref b] ∧ StepAt K X.C_Step H a (.hunk f i o n) ∧ StepAt K X.C_Step H b (.hunk f j u v) ∧ Post H Q (ResO K X.C_Step (commutedInside (.hunk f i o n) (.hunk f j u v)))
theorem ok_hunks_commuted (X : Txt K mg) : FnOk P w K mg base CX0 4 X.d_hunks_commuted.f X.d_hunks_commuted.fd ["p", "q"] (sp_hunks_commuted X) := by
  refine X.d_hunks_commuted.F.ok sc_hunks_commuted (fun vs H Q E h => ?_) (fun cdv A outer s0 H vs Q E hr h => ?_)
  · obtain ⟨a, b, f, i, j, o, n, u, v, rfl, _⟩ := h
    rfl
  · obtain ⟨a, b, f, i, j, o, n, u, v, rfl, ⟨dx, ao, an, hp⟩, ⟨dx2, ao2, an2, hq⟩, k⟩ := h
    refine ⟨_, (pss_cons (ps_if (pt_cmpR op_gt (pe_fld (pv 1) rfl) (pe_op op_add (pe_fld (pv 0) rfl) (pe_callB call_len_seq (by rfl) X.b_len (by decide +kernel) (pa_cons (pe_fld (pv 0) rfl) pa_nil))) (nomark _)) (pss_one (ps_ret (pe_tup (pa_cons (pe_meth (pv 1) X.cl_Step X.m_Step_at_place.m (ok_Step_at_place X) (hr.mono (by decide)) X.m_Step_at_place.b .nil pass0 (pa_cons (pe_op op_add (pe_op op_sub (pe_fld (pv 1) rfl) (pe_callB call_len_seq (by rfl) X.b_len (by decide +kernel) (pa_cons (pe_fld (pv 0) rfl) pa_nil))) (pe_callB call_len_seq (by rfl) X.b_len (by decide +kernel) (pa_cons (pe_fld (pv 0) rfl) pa_nil))) pa_nil)) (pa_cons (pv 0) pa_nil))))) pss_nil)
        (pss_cons (ps_if (pt_cmpR op_gt (pe_fld (pv 0) rfl) (pe_op op_add (pe_fld (pv 1) rfl) (pe_callB call_len_seq (by rfl) X.b_len (by decide +kernel) (pa_cons (pe_fld (pv 1) rfl) pa_nil))) (nomark _)) (pss_one (ps_ret (pe_tup (pa_cons (pv 1) (pa_cons (pe_meth (pv 0) X.cl_Step X.m_Step_at_place.m (ok_Step_at_place X) (hr.mono (by decide)) X.m_Step_at_place.b .nil pass0 (pa_cons (pe_op op_add (pe_op op_sub (pe_fld (pv 0) rfl) (pe_callB call_len_seq (by rfl) X.b_len (by decide +kernel) (pa_cons (pe_fld (pv 1) rfl) pa_nil))) (pe_callB call_len_seq (by rfl) X.b_len (by decide +kernel) (pa_cons (pe_fld (pv 1) rfl) pa_nil))) pa_nil)) pa_nil))))) pss_nil)
        (pss_one (ps_ret pe_non)))), ?_⟩
    have hP : StepAt K X.C_Step H a (.hunk f i o n) := ⟨dx, ao, an, hp⟩
    have hQ : StepAt K X.C_Step H b (.hunk f j u v) := ⟨dx2, ao2, an2, hq⟩
    refine r_place X hq ?_
    refine r_place X hp ?_
    refine r_new X hp ?_
    refine ⟨_, _, rfl, .inr hp.new, _, _, rfl, rfl, _, _, rfl, rfl, _, rfl, ?_⟩
    have e1 : (tok (nwN (.hunk f i o n))).length = n.length := tok_len n
    have e2 : (tok (olN (.hunk f j u v))).length = u.length := tok_len u
    have e3 : (tok (olN (.hunk f i o n))).length = o.length := tok_len o
    have e4 : (tok (nwN (.hunk f j u v))).length = v.length := tok_len v
    by_cases c1 : i + n.length < j
    · refine ifT (decide_eq_true ?_) ?_
      · show ((i : Nat) : Int) + ((tok (nwN (.hunk f i o n))).length : Int) < ((j : Nat) : Int)
        rw [e1]
        omega
      refine r_meth hq ?_
      refine r_place X hq ?_
      refine r_new X hp ?_
      refine ⟨_, _, rfl, .inr hp.new, _, _, rfl, rfl, ?_⟩
      refine r_old X hp ?_
      refine ⟨_, _, rfl, .inr hp.old, _, _, rfl, rfl, ?_⟩
      refine ⟨b, .hunk f j u v, .hunk f (j - n.length + o.length) u v, _, rfl, hQ, ⟨rfl, rfl, ?_, rfl, rfl, rfl⟩, fun H1 v1 s1 r1 => ?_⟩
      · show ((j : Nat) : Int) - ((tok (nwN (.hunk f i o n))).length : Int) + ((tok (olN (.hunk f i o n))).length : Int) = ((j - n.length + o.length : Nat) : Int)
        rw [e1, e3]
        omega
      obtain ⟨c, rfl, hc⟩ := r1
      refine ⟨_, rfl, (by show 2 ≤ sizeLine; decide), fun p np => ?_⟩
      exact pair_new (y := (.hunk f (j - n.length + o.length) u v, .hunk f i o n)) np s1 (if_pos c1) hc (hP.same s1) k
    · refine ifF (decide_eq_false ?_) ?_
      · show ¬ ((i : Nat) : Int) + ((tok (nwN (.hunk f i o n))).length : Int) < ((j : Nat) : Int)
        rw [e1]
        omega
      refine r_place X hp ?_
      refine r_place X hq ?_
      refine r_old X hq ?_
      refine ⟨_, _, rfl, .inr hq.old, _, _, rfl, rfl, _, _, rfl, rfl, _, rfl, ?_⟩
      by_cases c2 : j + u.length < i
      · refine ifT (decide_eq_true ?_) ?_
        · show ((j : Nat) : Int) + ((tok (olN (.hunk f j u v))).length : Int) < ((i : Nat) : Int)
          rw [e2]
          omega
        refine ⟨_, rfl, ?_⟩
        refine r_meth hp ?_
        refine r_place X hp ?_
        refine r_old X hq ?_
        refine ⟨_, _, rfl, .inr hq.old, _, _, rfl, rfl, ?_⟩
        refine r_new X hq ?_
        refine ⟨_, _, rfl, .inr hq.new, _, _, rfl, rfl, ?_⟩
        refine ⟨a, .hunk f i o n, .hunk f (i - u.length + v.length) o n, _, rfl, hP, ⟨rfl, rfl, ?_, rfl, rfl, rfl⟩, fun H1 v1 s1 r1 => ?_⟩
        · show ((i : Nat) : Int) - ((tok (olN (.hunk f j u v))).length : Int) + ((tok (nwN (.hunk f j u v))).length : Int) = ((i - u.length + v.length : Nat) : Int)
          rw [e2, e4]
          omega
        obtain ⟨c, rfl, hc⟩ := r1
        refine ⟨(by show 2 ≤ sizeLine; decide), fun p np => ?_⟩
        exact pair_new (y := (.hunk f j u v, .hunk f (i - u.length + v.length) o n)) np s1 ((if_neg c1).trans (if_pos c2)) (hQ.same s1) hc k
      · refine ifF (decide_eq_false ?_) ?_
        · show ¬ ((j : Nat) : Int) + ((tok (olN (.hunk f j u v))).length : Int) < ((i : Nat) : Int)
          rw [e2]
          omega
        refine k H _ (Same.refl H) ?_
        have : commutedInside (.hunk f i o n) (.hunk f j u v) = none := (if_neg c1).trans (if_neg c2)
        rw [this]
        rfl
def sp_with_swapped (X : Txt K mg) : Sp := fun vs H Q _ => ∃ (a b : Addr) (f g i x y : Nat) (o n : Tokens), vs = [.ref a, .ref b] ∧ StepAt K X.C_Step H a (.hunk f i o n) ∧ StepAt K X.C_Step H b (.swap g x y) ∧ o.length ≤ 8 ∧ n.length ≤ 8 ∧ Post H Q (StepR K X.C_Step (.hunk f i (swapAll x y o) (swapAll x y n)))
theorem ok_with_swapped (X : Txt K mg) : FnOk P w K mg base CX0 4 X.d_with_swapped.f X.d_with_swapped.fd ["hunk", "swap"] (sp_with_swapped X) := by
  refine X.d_with_swapped.F.ok sc_with_swapped (fun vs H Q E h => ?_) (fun cdv A outer s0 H vs Q E hr h => ?_)
  · obtain ⟨a, b, f, g, i, x, y, o, n, rfl, _⟩ := h
    rfl
  · obtain ⟨a, b, f, g, i, x, y, o, n, rfl, ⟨dx, ao, an, hp⟩, ⟨dx2, ao2, an2, hq⟩, lo, ln, k⟩ := h
    refine ⟨_, (pss_cons (ps_set (i := 2) sc_with_swapped.nd rfl (.inl rfl) (pe_ix ix_tup (pe_fld (pv 1) rfl) pe_int (fun _ _ => rfl)))
        (pss_cons (ps_set (i := 3) sc_with_swapped.nd rfl (.inl rfl) (pe_ix ix_tup (pe_fld (pv 1) rfl) pe_int (fun _ _ => rfl)))
        (pss_one (ps_ret (pe_meth (pv 0) X.cl_Step X.m_Step_with_tokens.m (ok_Step_with_tokens X) (hr.mono (by decide)) X.m_Step_with_tokens.b .nil pass0 (pa_cons (pe_call (ok_swapped X) (hr.mono (by decide)) rfl X.d_swapped.g X.d_swapped.F.kp X.d_swapped.b .nil pass0 (pa_cons (pe_fld (pv 0) rfl) (pa_cons (pv 2) (pa_cons (pv 3) pa_nil)))) (pa_cons (pe_call (ok_swapped X) (hr.mono (by decide)) rfl X.d_swapped.g X.d_swapped.F.kp X.d_swapped.b .nil pass0 (pa_cons (pe_fld (pv 0) rfl) (pa_cons (pv 2) (pa_cons (pv 3) pa_nil)))) pa_nil))))))), ?_⟩
    refine r_old X hq ?_
    refine ⟨_, _, _, _, rfl, rfl, hq.old, rfl, ?_⟩
    refine r_new X hq ?_
    refine ⟨_, _, _, _, rfl, rfl, hq.new, rfl, ?_⟩
    refine r_meth hp ?_
    refine r_old X hp ?_
    refine ⟨_, rfl, _, rfl, ?_⟩
    refine ⟨ao, x, y, o, rfl, hp.old, Nat.le_trans lo (by decide), fun H1 b1 s1 h1 => ?_⟩
    refine r_new X (hp.same s1) ?_
    refine ⟨_, rfl, _, rfl, ?_⟩
    refine ⟨an, x, y, n, rfl, (hp.same s1).new, Nat.le_trans ln (by decide), fun H2 b2 s2 h2 => ?_⟩
    have s12 := s1.trans s2
    exact ⟨a, b1, b2, _, .hunk f i (swapAll x y o) (swapAll x y n), rfl, ⟨dx, ao, an, hp.same s12⟩, sqT_same s2 h1, h2, ⟨rfl, rfl, rfl, rfl⟩, k.of s12⟩
def sp_swaps_commuted (X : Txt K mg) : Sp := fun vs H Q _ => ∃ (a b : Addr) (f x y u v : Nat), vs = [.ref a, .ref b] ∧ StepAt K X.C_Step H a (.swap f x y) ∧ StepAt K X.C_Step H b (.swap f u v) ∧ Post H Q (ResO K X.C_Step (commutedInside (.swap f x y) (.swap f u v)))
theorem ok_swaps_commuted (X : Txt K mg) : FnOk P w K mg base CX0 1 X.d_swaps_commuted.f X.d_swaps_commuted.fd ["p", "q"] (sp_swaps_commuted X) := by
  refine X.d_swaps_commuted.F.ok sc_swaps_commuted (fun vs H Q E h => ?_) (fun cdv A outer s0 H vs Q E hr h => ?_)
  · obtain ⟨a, b, f, x, y, u, v, rfl, _⟩ := h
    rfl
  · obtain ⟨a, b, f, x, y, u, v, rfl, ⟨dx, ao, an, hp⟩, ⟨dx2, ao2, an2, hq⟩, k⟩ := h
    refine ⟨_, (pss_cons (ps_if (pt_cmpR op_gt (pe_callB call_len_seq (by rfl) X.b_len (by decide +kernel) (pa_cons (pe_lc (own := [("token", 2)]) (tt := tTest (tOp (rIn K false) (tVar 2) (tOp (rCatA K) (tFld K (tVar 1) "old") (tFld K (tVar 1) "new")))) rfl sc_swaps_commuted.nd (pi_tup (pe_op op_catA (pe_fld (pv 0) rfl) (pe_fld (pv 0) rfl))) (blkOk_by (own := [("token", 2)]) (N := n_swaps_commuted) (sc := defScope s_swaps_commuted) (by decide +kernel)) (fun _ _ _ _ _ => (pg_name (i := 2) sc_swaps_commuted.nd rfl (.inl rfl))) (fun _ _ _ _ _ => (pts_one (pt_cmpR op_in_seq (pv 2) (pe_op op_catA (pe_fld (pv 1) rfl) (pe_fld (pv 1) rfl)) (by rfl)))) (fun _ _ _ _ _ => (pv 2))) pa_nil)) pe_int (nomark _)) (pss_one (ps_ret pe_non)) pss_nil)
        (pss_one (ps_ret (pe_tup (pa_cons (pv 1) (pa_cons (pv 0) pa_nil)))))), ?_⟩
    refine r_old X hp ?_
    refine r_new X hp ?_
    refine cat_t hp.old hp.new (by show 1 + 1 ≤ 100000; decide) fun H1 r1 s1 h1 => ?_
    have h1' : SqT K H1 r1 (tok [x, y]) := h1
    refine ⟨r1, rfl, ⟨_, h1⟩, fun D hD => ?_⟩
    refine lc_it (n := (tok [x, y]).length) walk_tup (fun i H' => Same H1 H' ∧ H' D = some (.lst (tok ((([x, y] : List Nat).take i).filter fun n => ([u, v] : List Nat).contains n)))) ⟨same_upd hD, upd_same⟩ (fun i H' _ h => sqT_same h.1 h1') ?_ ?_
    · rintro i z H2 H3 hi ⟨s2, eD⟩ ⟨rfl, hx⟩
      obtain ⟨n, hn, rfl⟩ := tok_get hx
      have s12 := s1.trans s2
      have hq2 := hq.same s12
      refine ⟨rfl, _, rfl, ?_⟩
      refine r_old X hq2 ?_
      refine r_new X hq2 ?_
      refine cat_t hq2.old hq2.new (by show 1 + 1 ≤ 100000; decide) fun H4 r4 s4 h4 => ?_
      have h4' : SqT K H4 r4 (tok [u, v]) := h4
      refine ⟨r4, _, rfl, .inr h4', rfl, tok_flat _, _, rfl, ?_⟩
      have fm := filtN_more (p := fun n => ([u, v] : List Nat).contains n) hn
      have e : inV (vN n) (tok [u, v]) = ([u, v] : List Nat).contains n := inV_tok _ _
      by_cases c : ([u, v] : List Nat).contains n = true
      · refine ifT (e.trans c) ⟨_, rfl, _, s4 _ _ eD, line_lt ?_, same_off (s2.trans s4) hD Off.upd, ?_⟩
        · rw [tok_len]
          exact contains_le _ (Nat.le_trans (List.length_take_le' _ _) (by show 2 ≤ 100000; decide))
        · rw [upd_same, fm, if_pos c]
          simp [tok]
      · refine ifF (e.trans (by simpa using c)) ⟨s2.trans s4, ?_⟩
        rw [fm, if_neg c, List.append_nil]
        exact s4 _ _ eD
    · rintro H2 ⟨s2, eD⟩
      have s12 := s1.trans s2
      refine ⟨D, _, rfl, .inl (SqL.of eD), _, _, rfl, rfl, _, rfl, ?_⟩
      have ed : decide ((((tok ((([x, y] : List Nat).take (tok [x, y]).length).filter fun n => ([u, v] : List Nat).contains n)).length : Nat) : Int) > 0) = !disjoint [x, y] [u, v] := by
        rw [tok_len, tok_len, List.take_length]
        exact disj_len _ _
      have ec : commutedInside (.swap f x y) (.swap f u v) = if disjoint [x, y] [u, v] then some (.swap f u v, .swap f x y) else none := rfl
      by_cases c : disjoint [x, y] [u, v] = true
      · rw [if_pos c] at ec
        refine ifF (ed.trans (by rw [c]; rfl)) ⟨_, rfl, _, rfl, (by show 2 ≤ sizeLine; decide), fun p np => ?_⟩
        exact pair_new (y := (.swap f u v, .swap f x y)) np s12 ec ⟨dx2, ao2, an2, hq.same s12⟩ ⟨dx, ao, an, hp.same s12⟩ k
      · rw [if_neg c] at ec
        refine ifT (ed.trans (by simpa using c)) (k H2 _ s12 ?_)
        rw [ec]
        rfl
end
end Rw

/-! part RwComm2 -/
set_option Elab.async false
set_option linter.all false
set_option maxRecDepth 100000
set_option maxHeartbeats 4000000
namespace Rw
open PySem PySem.Spec PyProof.Rows L2
open VapatBase (Tokens)
/-! Steps commuted, rows brought ahead, behind, merged. -/
open VapatBase (swapAll disjoint isInside inFile commutedInside)
open Vapatb (aheadOf behind rowsCommuted)
open Vapatd (rowsMerged)
abbrev nmsO := VapatBase.namesOf
section
variable {P : Program} {w : World} {K : PySem.W.Frag} {mg : Str → Option Value} {base : Heap}
def sp_inside_commuted (X : Txt K mg) : Sp := fun vs H Q _ => ∃ (a b : Addr) (p q : St'), vs = [.ref a, .ref b] ∧ StepAt K X.C_Step H a p ∧ StepAt K X.C_Step H b q ∧ isInside p = true ∧ isInside q = true ∧ nmN p = nmN q ∧ Okk p ∧ Okk q ∧ Post H Q (ResO K X.C_Step (commutedInside p q))
theorem ok_inside_commuted (X : Txt K mg) : FnOk P w K mg base CX0 5 X.d_inside_commuted.f X.d_inside_commuted.fd ["p", "q"] (sp_inside_commuted X) := by
  refine X.d_inside_commuted.F.ok sc_inside_commuted (fun vs H Q E h => ?_) (fun cdv A outer s0 H vs Q E hr h => ?_)
  · obtain ⟨a, b, p, q, rfl, _⟩ := h
    rfl
  · obtain ⟨a, b, p, q, rfl, ⟨dx, ao, an, hp⟩, ⟨dx2, ao2, an2, hq⟩, ip, iq, en, okp, okq, k⟩ := h
    refine ⟨_, (pss_cons (ps_if (PW.pt (pw_and (pt_cmpR op_eq (pe_fld (pv 0) rfl) (pe_glob (v := .int 0) rfl X.c_HUNK.h ⟨_, rfl⟩) (nomark _)) (pw_and1 (pt_cmpR op_eq (pe_fld (pv 1) rfl) (pe_glob (v := .int 0) rfl X.c_HUNK.h ⟨_, rfl⟩) (nomark _))))) (pss_one (ps_ret (pe_call (ok_hunks_commuted X) (hr.mono (by decide)) rfl X.d_hunks_commuted.g X.d_hunks_commuted.F.kp X.d_hunks_commuted.b .nil pass0 (pa_cons (pv 0) (pa_cons (pv 1) pa_nil))))) pss_nil)
        (pss_cons (ps_if (pt_cmpR op_eq (pe_fld (pv 0) rfl) (pe_glob (v := .int 0) rfl X.c_HUNK.h ⟨_, rfl⟩) (nomark _)) (pss_one (ps_ret (pe_tup (pa_cons (pv 1) (pa_cons (pe_call (ok_with_swapped X) (hr.mono (by decide)) rfl X.d_with_swapped.g X.d_with_swapped.F.kp X.d_with_swapped.b .nil pass0 (pa_cons (pv 0) (pa_cons (pv 1) pa_nil))) pa_nil))))) pss_nil)
        (pss_cons (ps_if (pt_cmpR op_eq (pe_fld (pv 1) rfl) (pe_glob (v := .int 0) rfl X.c_HUNK.h ⟨_, rfl⟩) (nomark _)) (pss_one (ps_ret (pe_tup (pa_cons (pe_call (ok_with_swapped X) (hr.mono (by decide)) rfl X.d_with_swapped.g X.d_with_swapped.F.kp X.d_with_swapped.b .nil pass0 (pa_cons (pv 1) (pa_cons (pv 0) pa_nil))) (pa_cons (pv 0) pa_nil))))) pss_nil)
        (pss_one (ps_ret (pe_call (ok_swaps_commuted X) (hr.mono (by decide)) rfl X.d_swaps_commuted.g X.d_swaps_commuted.F.kp X.d_swaps_commuted.b .nil pass0 (pa_cons (pv 0) (pa_cons (pv 1) pa_nil)))))))), ?_⟩
    have hP : StepAt K X.C_Step H a p := ⟨dx, ao, an, hp⟩
    have hQ : StepAt K X.C_Step H b q := ⟨dx2, ao2, an2, hq⟩
    refine r_kind X hp ?_
    refine ⟨rfl, _, rfl, ?_⟩
    rw [dec_i]
    cases p with
    | hunk f i o n =>
      refine ifT rfl ?_
      refine r_kind X hq ?_
      refine ⟨rfl, _, rfl, ?_⟩
      rw [dec_i]
      cases q with
      | hunk g j u v =>
        have e : f = g := en
        subst e
        exact ifT rfl ⟨_, rfl, _, rfl, a, b, f, i, j, o, n, u, v, rfl, hP, hQ, k⟩
      | swap g x y =>
        have e : f = g := en
        subst e
        refine ifF rfl ?_
        refine r_kind X hp ?_
        refine ⟨rfl, _, rfl, ?_⟩
        rw [dec_i]
        refine ifT rfl ?_
        refine ⟨_, rfl, _, rfl, _, rfl, a, b, f, f, i, x, y, o, n, rfl, hP, hQ, okp.2.1, okp.2.2, fun H1 v1 s1 r1 => ?_⟩
        obtain ⟨c, rfl, hc⟩ := r1
        refine ⟨(by show 2 ≤ sizeLine; decide), fun p np => ?_⟩
        exact pair_new (y := (.swap f x y, .hunk f i (swapAll x y o) (swapAll x y n))) np s1 rfl (hQ.same s1) hc k
      | _ => exact absurd iq Bool.false_ne_true
    | swap f x y =>
      refine ifF rfl ?_
      refine r_kind X hp ?_
      refine ⟨rfl, _, rfl, ?_⟩
      rw [dec_i]
      refine ifF rfl ?_
      refine r_kind X hq ?_
      refine ⟨rfl, _, rfl, ?_⟩
      rw [dec_i]
      cases q with
      | hunk g j u v =>
        have e : f = g := en
        subst e
        refine ifT rfl ?_
        refine ⟨_, rfl, _, rfl, b, a, f, f, j, x, y, u, v, rfl, hQ, hP, okq.2.1, okq.2.2, fun H1 v1 s1 r1 => ?_⟩
        obtain ⟨c, rfl, hc⟩ := r1
        refine ⟨_, rfl, (by show 2 ≤ sizeLine; decide), fun p np => ?_⟩
        exact pair_new (y := (.hunk f j (swapAll x y u) (swapAll x y v), .swap f x y)) np s1 rfl hc (hP.same s1) k
      | swap g u v =>
        have e : f = g := en
        subst e
        exact ifF rfl ⟨_, rfl, _, rfl, a, b, f, x, y, u, v, rfl, hP, hQ, k⟩
      | _ => exact absurd iq Bool.false_ne_true
    | _ => exact absurd ip Bool.false_ne_true
theorem in_k4 {p : St'} (h : isInside p = true) : kN p ≠ 4 := by
  cases p with
  | hunk => exact (by decide : (0 : Int) ≠ 4)
  | swap => exact (by decide : (1 : Int) ≠ 4)
  | _ => exact absurd h Bool.false_ne_true
theorem k4_move {p : St'} (h : kN p = 4) : ∃ f g, p = .move f g := by
  cases p with
  | hunk => exact absurd h (by decide : (0 : Int) ≠ 4)
  | swap => exact absurd h (by decide : (1 : Int) ≠ 4)
  | add => exact absurd h (by decide : (2 : Int) ≠ 4)
  | remove => exact absurd h (by decide : (3 : Int) ≠ 4)
  | move f g => exact ⟨f, g, rfl⟩
theorem cm_dis {p q : St'} (h : disjoint (nmsO p) (nmsO q) = true) : cmt p q = some (q, p) := if_pos h
theorem cm_both {p q : St'} (h : ¬ disjoint (nmsO p) (nmsO q) = true) (h1 : isInside p = true) (h2 : isInside q = true) : cmt p q = commutedInside p q := by
  have : (isInside p && isInside q) = true := by rw [h1, h2]; rfl
  exact (if_neg h).trans (if_pos this)
theorem in_name {p q : St'} (h : ¬ disjoint (nmsO p) (nmsO q) = true) (h1 : isInside p = true) (h2 : isInside q = true) : nmN p = nmN q := by
  cases p <;> first | (exact absurd h1 Bool.false_ne_true) | skip
  all_goals (cases q <;> first | (exact absurd h2 Bool.false_ne_true) | skip)
  all_goals (simp [nmsO, VapatBase.namesOf, disjoint] at h; exact h)
theorem cm_move {f g : Nat} {q : St'} (h : ¬ disjoint (nmsO (.move f g)) (nmsO q) = true) : cmt (.move f g) q = if isInside q = true ∧ nmN q = g then some (inFile f q, .move f g) else none := by
  unfold cmt VapatBase.commuted
  rw [if_neg h]
  cases q <;> simp [isInside, VapatBase.namesOf, nmN]
theorem cm_in_move {f g : Nat} {p : St'} (h : ¬ disjoint (nmsO p) (nmsO (.move f g)) = true) (n : kN p ≠ 4) : cmt p (.move f g) = if isInside p = true ∧ nmN p = f then some (.move f g, inFile g p) else none := by
  unfold cmt VapatBase.commuted
  rw [if_neg h]
  cases p <;> first | (exact absurd rfl n) | simp [isInside, VapatBase.namesOf, nmN]
theorem cm_no {p q : St'} (h : ¬ disjoint (nmsO p) (nmsO q) = true) (n : kN p ≠ 4) (m : kN q ≠ 4) (b : ¬ (isInside p = true ∧ isInside q = true)) : cmt p q = none := by
  unfold cmt VapatBase.commuted
  rw [if_neg h, if_neg (by rw [Bool.and_eq_true]; exact b)]
  cases p <;> first | (exact absurd rfl n) | skip
  all_goals (cases q <;> first | (exact absurd rfl m) | rfl)
theorem in_file_is {q : St'} (g : Nat) (h : isInside q = true) : kN (inFile g q) = kN q ∧ nmN (inFile g q) = g ∧ plN (inFile g q) = plN q ∧ olN (inFile g q) = olN q ∧ nwN (inFile g q) = nwN q ∧ glN (inFile g q) = glN q := by
  cases q <;> first | exact ⟨rfl, rfl, rfl, rfl, rfl, rfl⟩ | (exact absurd h Bool.false_ne_true)
def sp_commuted (X : Txt K mg) : Sp := fun vs H Q _ => ∃ (a b : Addr) (p q : St'), vs = [.ref a, .ref b] ∧ StepAt K X.C_Step H a p ∧ StepAt K X.C_Step H b q ∧ Okk p ∧ Okk q ∧ Post H Q (ResO K X.C_Step (cmt p q))
theorem ok_commuted (X : Txt K mg) : FnOk P w K mg base CX0 6 X.d_commuted.f X.d_commuted.fd ["p", "q"] (sp_commuted X) := by
  refine X.d_commuted.F.ok sc_commuted (fun vs H Q E h => ?_) (fun cdv A outer s0 H vs Q E hr h => ?_)
  · obtain ⟨a, b, p, q, rfl, _⟩ := h
    rfl
  · obtain ⟨a, b, p, q, rfl, hP, hQ, okp, okq, k⟩ := h
    refine ⟨_, (pss_cons (ps_if (pt_not (pt_val (pe_call (ok_have_name_in_common X) (hr.mono (by decide)) rfl X.d_have_name_in_common.g X.d_have_name_in_common.F.kp X.d_have_name_in_common.b .nil pass0 (pa_cons (pv 0) (pa_cons (pv 1) pa_nil))))) (pss_one (ps_ret (pe_tup (pa_cons (pv 1) (pa_cons (pv 0) pa_nil))))) pss_nil)
        (pss_cons (ps_if (PW.pt (pw_and (pt_val (pe_meth0 (pv 0) X.cl_Step X.m_Step_is_inside.m (ok_Step_is_inside X) (hr.mono (by decide)) X.m_Step_is_inside.b .nil pass0)) (pw_and1 (pt_val (pe_meth0 (pv 1) X.cl_Step X.m_Step_is_inside.m (ok_Step_is_inside X) (hr.mono (by decide)) X.m_Step_is_inside.b .nil pass0))))) (pss_one (ps_ret (pe_call (ok_inside_commuted X) (hr.mono (by decide)) rfl X.d_inside_commuted.g X.d_inside_commuted.F.kp X.d_inside_commuted.b .nil pass0 (pa_cons (pv 0) (pa_cons (pv 1) pa_nil))))) pss_nil)
        (pss_cons (ps_if (PW.pt (pw_and (pt_cmpR op_eq (pe_fld (pv 0) rfl) (pe_glob (v := .int 4) rfl X.c_MOVED.h ⟨_, rfl⟩) (nomark _)) (pw_and (pt_val (pe_meth0 (pv 1) X.cl_Step X.m_Step_is_inside.m (ok_Step_is_inside X) (hr.mono (by decide)) X.m_Step_is_inside.b .nil pass0)) (pw_and1 (pt_cmpR op_eq (pe_fld (pv 1) rfl) (pe_fld (pv 0) rfl) (nomark _)))))) (pss_one (ps_ret (pe_tup (pa_cons (pe_meth (pv 1) X.cl_Step X.m_Step_in_file.m (ok_Step_in_file X) (hr.mono (by decide)) X.m_Step_in_file.b .nil pass0 (pa_cons (pe_fld (pv 0) rfl) pa_nil)) (pa_cons (pv 0) pa_nil))))) pss_nil)
        (pss_cons (ps_if (PW.pt (pw_and (pt_val (pe_meth0 (pv 0) X.cl_Step X.m_Step_is_inside.m (ok_Step_is_inside X) (hr.mono (by decide)) X.m_Step_is_inside.b .nil pass0)) (pw_and (pt_cmpR op_eq (pe_fld (pv 1) rfl) (pe_glob (v := .int 4) rfl X.c_MOVED.h ⟨_, rfl⟩) (nomark _)) (pw_and1 (pt_cmpR op_eq (pe_fld (pv 1) rfl) (pe_fld (pv 0) rfl) (nomark _)))))) (pss_one (ps_ret (pe_tup (pa_cons (pv 1) (pa_cons (pe_meth (pv 0) X.cl_Step X.m_Step_in_file.m (ok_Step_in_file X) (hr.mono (by decide)) X.m_Step_in_file.b .nil pass0 (pa_cons (pe_fld (pv 1) rfl) pa_nil)) pa_nil))))) pss_nil)
        (pss_one (ps_ret pe_non)))))), ?_⟩
    refine ⟨_, rfl, _, rfl, a, b, p, q, rfl, hP, hQ, fun H1 s1 => ⟨_, rfl, ?_⟩⟩
    have hP1 := hP.same s1
    have hQ1 := hQ.same s1
    have k1 : Post H1 Q (ResO K X.C_Step (cmt p q)) := k.of s1
    obtain ⟨dx, ao, an, hp⟩ := hP1
    obtain ⟨dx2, ao2, an2, hq⟩ := hQ1
    have hP1 : StepAt K X.C_Step H1 a p := ⟨dx, ao, an, hp⟩
    have hQ1 : StepAt K X.C_Step H1 b q := ⟨dx2, ao2, an2, hq⟩
    clear k hP hQ s1
    by_cases cd : disjoint (nmsO p) (nmsO q) = true
    · refine ifT (by show (!(!disjoint (nmsO p) (nmsO q))) = true; rw [cd]; rfl) ⟨_, rfl, _, rfl, (by show 2 ≤ sizeLine; decide), fun t nt => ?_⟩
      exact pair_new (y := (q, p)) nt (Same.refl H1) (cm_dis cd) hQ1 hP1 k1
    · refine ifF (by show (!(!disjoint (nmsO p) (nmsO q))) = false; rw [Bool.eq_false_iff.mpr cd]; rfl) ?_
      refine r_meth hp ?_
      refine ⟨a, p, rfl, hP1, _, rfl, ?_⟩
      have none_of : cmt p q = none → Q .non H1 := fun e => by
        rw [e] at k1
        exact k1 H1 _ (Same.refl H1) rfl
      by_cases i1 : isInside p = true
      · have kp4 : kN p ≠ 4 := in_k4 i1
        refine ifT i1 ?_
        refine r_meth hq ?_
        refine ⟨b, q, rfl, hQ1, _, rfl, ?_⟩
        by_cases i2 : isInside q = true
        · refine ifT i2 ⟨_, rfl, _, rfl, a, b, p, q, rfl, hP1, hQ1, i1, i2, in_name cd i1 i2, okp, okq, ?_⟩
          rw [cm_both cd i1 i2] at k1
          exact k1
        · refine ifF (Bool.eq_false_iff.mpr i2) ?_
          refine r_kind X hp ?_
          refine ⟨rfl, _, rfl, ?_⟩
          rw [dec_i]
          refine ifF (decide_eq_false kp4) (ifF rfl ?_)
          refine r_meth hp ?_
          refine ⟨a, p, rfl, hP1, _, rfl, ?_⟩
          refine ifT i1 ?_
          refine r_kind X hq ?_
          refine ⟨rfl, _, rfl, ?_⟩
          rw [dec_i]
          cases q with
          | move f g =>
            refine ifT rfl ?_
            refine r_name X hq ?_
            refine r_name X hp ?_
            refine ⟨rfl, _, rfl, ?_⟩
            rw [dec_i]
            rw [cm_in_move cd kp4] at k1
            by_cases c : nmN p = f
            · rw [if_pos ⟨i1, c⟩] at k1
              refine ifT (decide_eq_true (by show ((f : Nat) : Int) = (nmN p : Nat); omega)) ?_
              refine ⟨_, rfl, ?_⟩
              refine r_meth hp ?_
              refine r_goal X hq ?_
              obtain ⟨f1, f2, f3, f4, f5, f6⟩ := in_file_is g i1
              refine ⟨a, p, inFile g p, _, rfl, hP1, ⟨f1, by rw [f2]; rfl, f3, f4, f5, f6⟩, fun H2 v2 s2 r2 => ?_⟩
              obtain ⟨c2, rfl, hc⟩ := r2
              refine ⟨(by show 2 ≤ sizeLine; decide), fun t nt => ?_⟩
              exact pair_new (y := (.move f g, inFile g p)) nt s2 rfl (hQ1.same s2) hc k1
            · rw [if_neg (fun h => c h.2)] at k1
              refine ifF (decide_eq_false (by show ¬ ((f : Nat) : Int) = (nmN p : Nat); omega)) ?_
              exact k1 H1 _ (Same.refl H1) rfl
          | hunk => exact absurd rfl i2
          | swap => exact absurd rfl i2
          | add g =>
            refine ifF rfl (ifF rfl ?_)
            exact none_of (cm_no cd kp4 (show (2 : Int) ≠ 4 by decide) (fun h => i2 h.2))
          | remove g =>
            refine ifF rfl (ifF rfl ?_)
            exact none_of (cm_no cd kp4 (show (3 : Int) ≠ 4 by decide) (fun h => i2 h.2))
      · refine ifF (Bool.eq_false_iff.mpr i1) (ifF rfl ?_)
        refine r_kind X hp ?_
        refine ⟨rfl, _, rfl, ?_⟩
        rw [dec_i]
        cases p with
        | move f g =>
          refine ifT rfl ?_
          refine r_meth hq ?_
          refine ⟨b, q, rfl, hQ1, _, rfl, ?_⟩
          rw [cm_move cd] at k1
          have last : ¬ (isInside q = true ∧ nmN q = g) → Q .non H1 := fun h => by
            rw [if_neg h] at k1
            exact k1 H1 _ (Same.refl H1) rfl
          by_cases i2 : isInside q = true
          · refine ifT i2 ?_
            refine r_name X hq ?_
            refine r_goal X hp ?_
            refine ⟨rfl, _, rfl, ?_⟩
            rw [dec_i]
            by_cases c : nmN q = g
            · rw [if_pos ⟨i2, c⟩] at k1
              refine ifT (decide_eq_true (by show ((nmN q : Nat) : Int) = ((g : Nat) : Int); omega)) ?_
              refine r_meth hq ?_
              refine r_name X hp ?_
              obtain ⟨f1, f2, f3, f4, f5, f6⟩ := in_file_is f i2
              refine ⟨b, q, inFile f q, _, rfl, hQ1, ⟨f1, by rw [f2]; rfl, f3, f4, f5, f6⟩, fun H2 v2 s2 r2 => ?_⟩
              obtain ⟨c2, rfl, hc⟩ := r2
              refine ⟨_, rfl, (by show 2 ≤ sizeLine; decide), fun t nt => ?_⟩
              exact pair_new (y := (inFile f q, .move f g)) nt s2 rfl hc (hP1.same s2) k1
            · refine ifF (decide_eq_false (by show ¬ ((nmN q : Nat) : Int) = ((g : Nat) : Int); omega)) ?_
              refine r_meth hp ?_
              refine ⟨a, _, rfl, hP1, _, rfl, ?_⟩
              exact ifF rfl (ifF rfl (last fun h => c h.2))
          · refine ifF (Bool.eq_false_iff.mpr i2) (ifF rfl ?_)
            refine r_meth hp ?_
            refine ⟨a, _, rfl, hP1, _, rfl, ?_⟩
            exact ifF rfl (ifF rfl (last fun h => i2 h.1))
        | hunk => exact absurd rfl i1
        | swap => exact absurd rfl i1
        | add f =>
          refine ifF rfl (ifF rfl ?_)
          refine r_meth hp ?_
          refine ⟨a, _, rfl, hP1, _, rfl, ?_⟩
          refine ifF rfl (ifF rfl (none_of ?_))
          by_cases m : kN q = 4
          · obtain ⟨g, h, rfl⟩ := k4_move m
            rw [cm_in_move cd (show (2 : Int) ≠ 4 by decide), if_neg (fun z => i1 z.1)]
          · exact cm_no cd (show (2 : Int) ≠ 4 by decide) m (fun h => i1 h.1)
        | remove f =>
          refine ifF rfl (ifF rfl ?_)
          refine r_meth hp ?_
          refine ⟨a, _, rfl, hP1, _, rfl, ?_⟩
          refine ifF rfl (ifF rfl (none_of ?_))
          by_cases m : kN q = 4
          · obtain ⟨g, h, rfl⟩ := k4_move m
            rw [cm_in_move cd (show (3 : Int) ≠ 4 by decide), if_neg (fun z => i1 z.1)]
          · exact cm_no cd (show (3 : Int) ≠ 4 by decide) m (fun h => i1 h.1)
end
end Rw

/-! part RwRows -/
set_option Elab.async false
set_option linter.all false
set_option maxRecDepth 100000
set_option maxHeartbeats 4000000
namespace Rw
open PySem PySem.Spec PyProof.Rows L2
open VapatBase (Tokens)
/-! Rows brought ahead, behind; merged. -/
open Vapatb (aheadOf behind rowsCommuted)
open Vapatd (rowsMerged)
/-- a row and a step behind it in a tuple, or None; the row is new over H0 -/
def BhR (K : PySem.W.Frag) (C : Addr) (H0 : Hp) (x : Except Nat (List St' × St')) (H : Hp) (v : V) : Prop := match x with
  | .error _ => v = .non
  | .ok y => ∃ t r d, v = .ref t ∧ H t = some (.tup [.ref r, .ref d]) ∧ H0 r = none ∧ RowAt K C H r y.1 ∧ StepAt K C H d y.2
def AhR (K : PySem.W.Frag) (C : Addr) (H0 : Hp) (x : Except Nat (St' × List St')) (H : Hp) (v : V) : Prop := match x with
  | .error _ => v = .non
  | .ok y => ∃ t d r, v = .ref t ∧ H t = some (.tup [.ref d, .ref r]) ∧ H0 r = none ∧ StepAt K C H d y.1 ∧ RowAt K C H r y.2
/-- two rows in a tuple, or None -/
def MgR (K : PySem.W.Frag) (C : Addr) (x : Option (List St' × List St')) (H : Hp) (v : V) : Prop := match x with
  | none => v = .non
  | some y => ∃ t r s, v = .ref t ∧ H t = some (.tup [.ref r, .ref s]) ∧ RowAt K C H r y.1 ∧ RowAt K C H s y.2
theorem bh_err {p p' x : St'} {ss l : List St'} {i : Nat} (h : RM.Bh p (ss.take i) l p') (e : ss[i]? = some x) (n : cmt p' x = none) : ∃ m, behind p ss = .error m := by
  cases q : behind p ss with
  | error m => exact ⟨m, rfl⟩
  | ok r =>
    have b := (RM.bh_iff _ _ r.1 r.2).mp q
    obtain ⟨hi, hx⟩ := List.getElem?_eq_some_iff.mp e
    rw [RM.split_at hi, hx] at b
    obtain ⟨l1, m1, p1, _, b1, b2⟩ := RM.Bh.part b
    obtain ⟨rfl, rfl⟩ := h.det b1
    cases b2 with
    | cons c _ =>
      unfold cmt at n
      rw [n] at c
      cases c
theorem bh_more {p p' x x' p'' : St'} {ss l : List St'} {i : Nat} (h : RM.Bh p (ss.take i) l p') (e : ss[i]? = some x) (c : cmt p' x = some (x', p'')) : RM.Bh p (ss.take (i + 1)) (l ++ [x']) p'' := by
  rw [RM.take_more e]
  exact h.app (.one c)
theorem ah_err {q : St'} {n : Nat} : ∀ (u l : List St'), aheadOf l q = .error n → ∃ m, aheadOf (u ++ l) q = .error m
  | [], l, h => ⟨n, h⟩
  | x :: u, l, h => by
    obtain ⟨m, e⟩ := ah_err u l h
    exact ⟨m, by simp only [List.cons_append, aheadOf, e]⟩
section
variable {P : Program} {w : World} {K : PySem.W.Frag} {mg : Str → Option Value} {base : Heap}
def sp_brought_behind (X : Txt K mg) : Sp := fun vs H Q _ => ∃ (a r : Addr) (p : St') (ss : List St'), vs = [.ref a, .ref r] ∧ StepAt K X.C_Step H a p ∧ RowAt K X.C_Step H r ss ∧ Okk p ∧ (∀ s ∈ ss, Okk s) ∧ ss.length ≤ 1000 ∧ Post H Q (BhR K X.C_Step H (behind p ss))
theorem ok_brought_behind (X : Txt K mg) : FnOk P w K mg base CX0 7 X.d_brought_behind.f X.d_brought_behind.fd ["step", "row"] (sp_brought_behind X) := by
  refine X.d_brought_behind.F.ok sc_brought_behind (fun vs H Q E h => ?_) (fun cdv A outer s0 H vs Q E hr h => ?_)
  · obtain ⟨a, r, p, ss, rfl, _⟩ := h
    rfl
  · obtain ⟨a, r, p, ss, rfl, hP, ⟨as, hrow, hss⟩, okp, oks, hl, k⟩ := h
    refine ⟨_, (pss_cons (ps_set (i := 2) sc_brought_behind.nd rfl (.inl rfl) (pe_lst pa_nil))
        (pss_cons (ps_for PassesOwn.never rfl (pi_list (pv 1)) (pg_name (i := 3) sc_brought_behind.nd rfl (.inl rfl)) (pss_cons (ps_set (i := 4) sc_brought_behind.nd rfl (.inl rfl) (pe_call (ok_commuted X) (hr.mono (by decide)) rfl X.d_commuted.g X.d_commuted.F.kp X.d_commuted.b .nil pass0 (pa_cons (pv 0) (pa_cons (pv 3) pa_nil))))
        (pss_cons (ps_if (pt_cmp (pc_isN (pv 4)) rfl) (pss_one (ps_ret pe_non)) pss_nil)
        (pss_cons (ps_expr (pe_bm PySem.F.plainAttrs_list PySem.F.slot_list_append PySem.F.type_list_append mt_append (pv 2) (pa_cons (pe_ix ix_tup (pv 4) pe_int (fun _ _ => rfl)) pa_nil)))
        (pss_one (ps_set (i := 0) sc_brought_behind.nd rfl (.inl rfl) (pe_ix ix_tup (pv 4) pe_int (fun _ _ => rfl))))))))
        (pss_one (ps_ret (pe_tup (pa_cons (pv 2) (pa_cons (pv 0) pa_nil))))))), ?_⟩
    refine ⟨Nat.zero_le _, fun q nq => ?_⟩
    have s0 : Same H (upd H q (.lst [])) := same_upd nq
    refine ⟨_, rfl, r, rfl, ⟨_, SqL.of (s0 _ _ hrow)⟩, for_it walk_list (fun i σ H' => ∃ (s : Addr) (p' : St') (bs : List Addr) (l : List St') (v3 v4 : Option V), σ = [some (.ref s), some (.ref r), some (.ref q), v3, v4] ∧ Same H H' ∧ H' q = some (.lst (bs.map V.ref)) ∧ StepsAt K X.C_Step H' bs l ∧ StepAt K X.C_Step H' s p' ∧ RM.Bh p (ss.take i) l p' ∧ Okk p')
      ⟨a, p, [], [], none, none, rfl, s0, upd_same, .nil, hP.same s0, .nil, okp⟩ (fun i σ H' _ ⟨_, _, _, _, _, _, _, s1, _⟩ => SqL.of (s1 _ _ hrow)) ?_ ?_⟩
    · rintro i x σ H1 H2 hi ⟨s, p', bs, l, v3, v4, rfl, s1, eq, hbs, hs, hb, okp'⟩ ⟨rfl, hx⟩
      obtain ⟨b, hb1, rfl⟩ := ref_get hx
      obtain ⟨x, ex, hx1⟩ := hss.get hb1
      have okx := oks x (List.mem_of_getElem? ex)
      have lb : bs.length ≤ 1000 := by
        rw [hbs.len, hb.len, List.length_take]
        omega
      refine ⟨_, rfl, _, rfl, s, b, p', x, rfl, hs, hx1.same s1, okp', okx, fun H3 v s3 r3 => ?_⟩
      have s13 := s1.trans s3
      cases c : cmt p' x with
      | none =>
        rw [c] at r3
        cases (show v = .non from r3)
        refine ⟨_, rfl, _, rfl, ?_⟩
        refine ifT rfl ?_
        obtain ⟨m, em⟩ := bh_err hb ex c
        rw [em] at k
        exact k H3 _ s13 rfl
      | some y =>
        rw [c] at r3
        obtain ⟨t, c1, d1, rfl, et, hc1, hd1⟩ := r3
        obtain ⟨ok1, ok2⟩ := ok_comm c okp' okx
        have eq3 : H3 q = some (.lst (bs.map V.ref)) := s3 _ _ eq
        refine ⟨_, rfl, _, rfl, ?_⟩
        refine ifF rfl ?_
        refine ⟨_, rfl, .inl ⟨rfl, _, SqL.of eq3⟩, _, rfl, _, _, _, _, rfl, rfl, SqT.of et, rfl, q, _, _, rfl, rfl, eq3, line_lt (by rw [List.length_map]; omega), ?_⟩
        have sq : Soft H3 q := .inl ⟨_, eq3⟩
        have et2 : (upd H3 q (.lst (bs.map V.ref ++ [.ref c1]))) t = some (.tup [.ref c1, .ref d1]) := by
          rw [upd_ne (ne_of et eq3 (by intro z; cases z))]
          exact et
        refine ⟨_, rfl, _, _, _, _, rfl, rfl, SqT.of et2, rfl, ?_⟩
        refine ⟨d1, y.2, bs ++ [c1], l ++ [y.1], _, _, rfl, same_off s13 nq Off.upd, by rw [upd_same, List.map_append]; rfl, (steps_off (steps_same hbs s3) sq Off.upd).app (.one (hc1.off sq Off.upd)), hd1.off sq Off.upd, bh_more hb ex c, ok2⟩
    · rintro σ H1 ⟨s, p', bs, l, v3, v4, rfl, s1, eq, hbs, hs, hb, okp'⟩
      rw [List.length_map, hss.len, List.take_length] at hb
      rw [(RM.bh_iff _ _ _ _).mpr hb] at k
      refine ⟨_, rfl, _, rfl, (by show 2 ≤ sizeLine; decide), fun t nt => ?_⟩
      refine alloc nt fun H2 s2 e2 => ?_
      exact k H2 _ (s1.trans s2) ⟨t, q, s, rfl, e2, nq, ⟨bs, s2 _ _ eq, steps_same hbs s2⟩, hs.same s2⟩
def sp_brought_ahead (X : Txt K mg) : Sp := fun vs H Q _ => ∃ (r a : Addr) (ss : List St') (p : St'), vs = [.ref r, .ref a] ∧ RowAt K X.C_Step H r ss ∧ StepAt K X.C_Step H a p ∧ (∀ s ∈ ss, Okk s) ∧ Okk p ∧ ss.length ≤ 1000 ∧ Post H Q (AhR K X.C_Step H (aheadOf ss p))
theorem ok_brought_ahead (X : Txt K mg) : FnOk P w K mg base CX0 7 X.d_brought_ahead.f X.d_brought_ahead.fd ["row", "step"] (sp_brought_ahead X) := by
  refine X.d_brought_ahead.F.ok sc_brought_ahead (fun vs H Q E h => ?_) (fun cdv A outer s0 H vs Q E hr h => ?_)
  · obtain ⟨r, a, ss, p, rfl, _⟩ := h
    rfl
  · obtain ⟨r, a, ss, p, rfl, ⟨as, hrow, hss⟩, hP, oks, okp, hl, k⟩ := h
    refine ⟨_, (pss_cons (ps_set (i := 2) sc_brought_ahead.nd rfl (.inl rfl) (pe_lst pa_nil))
        (pss_cons (ps_for PassesOwn.never rfl (pi_reversed (by rfl) X.b_reversed (pa_cons (pv 0) pa_nil)) (pg_name (i := 3) sc_brought_ahead.nd rfl (.inl rfl)) (pss_cons (ps_set (i := 4) sc_brought_ahead.nd rfl (.inl rfl) (pe_call (ok_commuted X) (hr.mono (by decide)) rfl X.d_commuted.g X.d_commuted.F.kp X.d_commuted.b .nil pass0 (pa_cons (pv 3) (pa_cons (pv 1) pa_nil))))
        (pss_cons (ps_if (pt_cmp (pc_isN (pv 4)) rfl) (pss_one (ps_ret pe_non)) pss_nil)
        (pss_cons (ps_set (i := 1) sc_brought_ahead.nd rfl (.inl rfl) (pe_ix ix_tup (pv 4) pe_int (fun _ _ => rfl)))
        (pss_one (ps_set (i := 2) sc_brought_ahead.nd rfl (.inl rfl) (pe_op op_cat (pe_lst (pa_cons (pe_ix ix_tup (pv 4) pe_int (fun _ _ => rfl)) pa_nil)) (pv 2))))))))
        (pss_one (ps_ret (pe_tup (pa_cons (pv 1) (pa_cons (pv 2) pa_nil))))))), ?_⟩
    have la : as.length = ss.length := hss.len
    refine ⟨Nat.zero_le _, fun q nq => ?_⟩
    have s0 : Same H (upd H q (.lst [])) := same_upd nq
    refine ⟨_, rfl, r, _, rfl, SqL.of (s0 _ _ hrow), for_it walk_rev (fun i σ H' => ∃ (s f : Addr) (p' : St') (bs : List Addr) (l : List St') (v3 v4 : Option V), σ = [some (.ref r), some (.ref s), some (.ref f), v3, v4] ∧ Same H H' ∧ H f = none ∧ H' f = some (.lst (bs.map V.ref)) ∧ StepsAt K X.C_Step H' bs l ∧ StepAt K X.C_Step H' s p' ∧ aheadOf (ss.drop (ss.length - i)) p = .ok (p', l) ∧ Okk p' ∧ l.length = i)
      ⟨a, q, p, [], [], none, none, rfl, s0, nq, upd_same, .nil, hP.same s0, by rw [Nat.sub_zero, List.drop_length]; rfl, okp, rfl⟩ (fun i σ H' _ ⟨_, _, _, _, _, _, _, _, s1, _⟩ => SqL.of (s1 _ _ hrow)) ?_ ?_⟩
    · rintro i x σ H1 H2 hi ⟨s, f, p', bs, l, v3, v4, rfl, s1, nf, ef, hbs, hs, hah, okp', li⟩ ⟨rfl, hx⟩
      rw [List.length_map] at hi hx
      obtain ⟨b, hb1, rfl⟩ := ref_get hx
      obtain ⟨x, ex, hx1⟩ := hss.get hb1
      have okx := oks x (List.mem_of_getElem? ex)
      have lb : bs.length ≤ 1000 := by rw [hbs.len]; omega
      have hlt : as.length - 1 - i < ss.length := by omega
      have hd : ss.drop (ss.length - (i + 1)) = x :: ss.drop (ss.length - i) := by
        have e1 : as.length - 1 - i = ss.length - (i + 1) := by omega
        rw [e1] at ex hlt
        have e2 := (List.getElem?_eq_some_iff.mp ex).2
        rw [← List.getElem_cons_drop hlt, e2]
        congr 2
        omega
      refine ⟨_, rfl, _, rfl, b, s, x, p', rfl, hx1.same s1, hs, okx, okp', fun H3 v s3 r3 => ?_⟩
      have s13 := s1.trans s3
      cases c : cmt x p' with
      | none =>
        rw [c] at r3
        cases (show v = .non from r3)
        refine ⟨_, rfl, _, rfl, ?_⟩
        refine ifT rfl ?_
        have e1 : aheadOf (ss.drop (ss.length - (i + 1))) p = .error (ss.drop (ss.length - i)).length := by
          rw [hd]
          unfold cmt at c
          simp only [aheadOf, hah, c]
        obtain ⟨m, em⟩ := ah_err (ss.take (ss.length - (i + 1))) _ e1
        rw [List.take_append_drop] at em
        rw [em] at k
        exact k H3 _ s13 rfl
      | some y =>
        rw [c] at r3
        obtain ⟨t, c1, d1, rfl, et, hc1, hd1⟩ := r3
        obtain ⟨ok1, ok2⟩ := ok_comm c okx okp'
        refine ⟨_, rfl, _, rfl, ?_⟩
        refine ifF rfl ?_
        refine ⟨_, rfl, _, _, _, _, rfl, rfl, SqT.of et, rfl, ?_⟩
        refine ⟨_, rfl, _, _, _, _, rfl, rfl, SqT.of et, rfl, (by show 1 ≤ sizeLine; decide), fun t2 n2 => ?_⟩
        refine alloc n2 fun H4 s4 e4 => ?_
        refine ⟨_, rfl, _, _, _, _, rfl, rfl, e4, s4 _ _ (s3 _ _ ef), line_le (by simp only [List.length_cons, List.length_nil, List.length_map]; omega), fun t3 n3 => ?_⟩
        refine alloc n3 fun H5 s5 e5 => ?_
        have s15 := (s13.trans s4).trans s5
        have s35 := s4.trans s5
        refine ⟨c1, t3, y.1, d1 :: bs, y.2 :: l, _, _, rfl, s15, (s13.trans s4).free n3, e5, .cons (hd1.same s35) (steps_same hbs (s3.trans s35)), hc1.same s35, ?_, ok1, by rw [List.length_cons, li]⟩
        rw [hd]
        unfold cmt at c
        simp only [aheadOf, hah, c]
    · rintro σ H1 ⟨s, f, p', bs, l, v3, v4, rfl, s1, nf, ef, hbs, hs, hah, okp', li⟩
      rw [List.length_map, la, Nat.sub_self, List.drop_zero] at hah
      rw [hah] at k
      refine ⟨_, rfl, _, rfl, (by show 2 ≤ sizeLine; decide), fun t nt => ?_⟩
      refine alloc nt fun H2 s2 e2 => ?_
      exact k H2 _ (s1.trans s2) ⟨t, s, f, rfl, e2, nf, hs.same s2, ⟨bs, s2 _ _ ef, steps_same hbs s2⟩⟩
theorem ah_ok {q q1 : St'} : ∀ {l l1 : List St'}, aheadOf l q = .ok (q1, l1) → (∀ s ∈ l, Okk s) → Okk q → Okk q1 ∧ (∀ s ∈ l1, Okk s) ∧ l1.length = l.length
  | [], l1, h, _, ok => by
    simp only [aheadOf, Except.ok.injEq, Prod.mk.injEq] at h
    obtain ⟨rfl, rfl⟩ := h
    exact ⟨ok, fun _ h => (nomatch h), rfl⟩
  | p :: l, l1, h, oks, ok => by
    simp only [aheadOf] at h
    cases e : aheadOf l q with
    | error n => rw [e] at h; cases h
    | ok r =>
      obtain ⟨r1, r2⟩ := r
      rw [e] at h
      simp only at h
      obtain ⟨a, b, c⟩ := ah_ok (q1 := r1) (l1 := r2) e (fun s hs => oks s (List.mem_cons_of_mem _ hs)) ok
      cases e2 : VapatBase.commuted p r1 with
      | none => rw [e2] at h; cases h
      | some y =>
        rw [e2] at h
        simp only [Except.ok.injEq, Prod.mk.injEq] at h
        obtain ⟨rfl, rfl⟩ := h
        obtain ⟨o1, o2⟩ := ok_comm e2 (oks p List.mem_cons_self) a
        refine ⟨o1, fun s hs => ?_, by rw [List.length_cons, List.length_cons, c]⟩
        rcases List.mem_cons.mp hs with rfl | hs
        · exact o2
        · exact b s hs
def sp_row_brought_ahead (X : Txt K mg) : Sp := fun vs H Q _ => ∃ (r o : Addr) (ss ms : List St'), vs = [.ref r, .ref o] ∧ RowAt K X.C_Step H r ss ∧ RowAt K X.C_Step H o ms ∧ (∀ s ∈ ss, Okk s) ∧ (∀ s ∈ ms, Okk s) ∧ ss.length ≤ 1000 ∧ ms.length ≤ 1000 ∧ Post H Q (MgR K X.C_Step (rowsCommuted ss ms))
theorem ok_row_brought_ahead (X : Txt K mg) : FnOk P w K mg base CX0 8 X.d_row_brought_ahead.f X.d_row_brought_ahead.fd ["row", "other"] (sp_row_brought_ahead X) := by
  refine X.d_row_brought_ahead.F.ok sc_row_brought_ahead (fun vs H Q E h => ?_) (fun cdv A outer s0 H vs Q E hr h => ?_)
  · obtain ⟨r, o, ss, ms, rfl, _⟩ := h
    rfl
  · obtain ⟨r, o, ss, ms, rfl, hR, ⟨as, hrow, hms⟩, oks, okm, hl, hlm, k⟩ := h
    refine ⟨_, (pss_cons (ps_set (i := 2) sc_row_brought_ahead.nd rfl (.inl rfl) (pe_lst pa_nil))
        (pss_cons (ps_for PassesOwn.never rfl (pi_list (pv 1)) (pg_name (i := 3) sc_row_brought_ahead.nd rfl (.inl rfl)) (pss_cons (ps_set (i := 4) sc_row_brought_ahead.nd rfl (.inl rfl) (pe_call (ok_brought_ahead X) (hr.mono (by decide)) rfl X.d_brought_ahead.g X.d_brought_ahead.F.kp X.d_brought_ahead.b .nil pass0 (pa_cons (pv 0) (pa_cons (pv 3) pa_nil))))
        (pss_cons (ps_if (pt_cmp (pc_isN (pv 4)) rfl) (pss_one (ps_ret pe_non)) pss_nil)
        (pss_cons (ps_expr (pe_bm PySem.F.plainAttrs_list PySem.F.slot_list_append PySem.F.type_list_append mt_append (pv 2) (pa_cons (pe_ix ix_tup (pv 4) pe_int (fun _ _ => rfl)) pa_nil)))
        (pss_one (ps_set (i := 0) sc_row_brought_ahead.nd rfl (.inl rfl) (pe_ix ix_tup (pv 4) pe_int (fun _ _ => rfl))))))))
        (pss_one (ps_ret (pe_tup (pa_cons (pv 2) (pa_cons (pv 0) pa_nil))))))), ?_⟩
    refine ⟨Nat.zero_le _, fun q nq => ?_⟩
    have s0 : Same H (upd H q (.lst [])) := same_upd nq
    have nr : r ≠ q := by
      obtain ⟨_, h1, _⟩ := hR
      exact ne_of_none h1 nq
    refine ⟨_, rfl, o, rfl, ⟨_, SqL.of (s0 _ _ hrow)⟩, for_it walk_list (fun i σ H' => ∃ (c : Addr) (cur : List St') (bs : List Addr) (l : List St') (v3 v4 : Option V), σ = [some (.ref c), some (.ref o), some (.ref q), v3, v4] ∧ Same H H' ∧ c ≠ q ∧ H' q = some (.lst (bs.map V.ref)) ∧ StepsAt K X.C_Step H' bs l ∧ RowAt K X.C_Step H' c cur ∧ rowsCommuted ss ms = (rowsCommuted cur (ms.drop i)).map (fun z => (l ++ z.1, z.2)) ∧ (∀ s ∈ cur, Okk s) ∧ cur.length = ss.length ∧ l.length = i)
      ⟨r, ss, [], [], none, none, rfl, s0, nr, upd_same, .nil, hR.same s0, by simp, oks, rfl, rfl⟩ (fun i σ H' _ ⟨_, _, _, _, _, _, _, s1, _⟩ => SqL.of (s1 _ _ hrow)) ?_ ?_⟩
    · rintro i x σ H1 H2 hi ⟨c, cur, bs, l, v3, v4, rfl, s1, nc, eq, hbs, hc, hrc, okc, lc, li⟩ ⟨rfl, hx⟩
      obtain ⟨b, hb1, rfl⟩ := ref_get hx
      obtain ⟨x, ex, hx1⟩ := hms.get hb1
      have okx := okm x (List.mem_of_getElem? ex)
      have hlt := (List.getElem?_eq_some_iff.mp ex).1
      have hd : ms.drop i = x :: ms.drop (i + 1) := by
        rw [← List.getElem_cons_drop hlt, (List.getElem?_eq_some_iff.mp ex).2]
      have lb : bs.length ≤ 1000 := by rw [hbs.len]; omega
      rw [hd] at hrc
      refine ⟨_, rfl, _, rfl, c, b, cur, x, rfl, hc, hx1.same s1, okc, okx, by omega, fun H3 v s3 r3 => ?_⟩
      have s13 := s1.trans s3
      have eq3 : H3 q = some (.lst (bs.map V.ref)) := s3 _ _ eq
      cases ca : aheadOf cur x with
      | error n =>
        rw [ca] at r3
        cases (show v = .non from r3)
        refine ⟨_, rfl, _, rfl, ?_⟩
        refine ifT rfl ?_
        have : rowsCommuted ss ms = none := by
          rw [hrc]
          simp only [rowsCommuted, ca, Option.map_none]
        rw [this] at k
        exact k H3 _ s13 rfl
      | ok y =>
        rw [ca] at r3
        obtain ⟨t, d1, c1, rfl, et, nc1, hd1, hc1⟩ := r3
        obtain ⟨o1, o2, o3⟩ := ah_ok (q1 := y.1) (l1 := y.2) ca okc okx
        refine ⟨_, rfl, _, rfl, ?_⟩
        refine ifF rfl ?_
        refine ⟨_, rfl, .inl ⟨rfl, _, SqL.of eq3⟩, _, rfl, _, _, _, _, rfl, rfl, SqT.of et, rfl, q, _, _, rfl, rfl, eq3, line_lt (by rw [List.length_map]; omega), ?_⟩
        have sq : Soft H3 q := .inl ⟨_, eq3⟩
        have et2 : (upd H3 q (.lst (bs.map V.ref ++ [.ref d1]))) t = some (.tup [.ref d1, .ref c1]) := by
          rw [upd_ne (ne_of et eq3 (by intro z; cases z))]
          exact et
        have ncq : c1 ≠ q := fun z => by
          rw [z, eq] at nc1
          cases nc1
        refine ⟨_, rfl, _, _, _, _, rfl, rfl, SqT.of et2, rfl, ?_⟩
        refine ⟨c1, y.2, bs ++ [d1], l ++ [y.1], _, _, rfl, same_off s13 nq Off.upd, ncq, by rw [upd_same, List.map_append]; rfl, (steps_off (steps_same hbs s3) sq Off.upd).app (.one (hd1.off sq Off.upd)), hc1.off sq ncq Off.upd, ?_, o2, by omega, by rw [List.length_append, li]; rfl⟩
        rw [hrc]
        simp only [rowsCommuted, ca, Option.map_map]
        congr 1
        funext z
        simp
    · rintro σ H1 ⟨c, cur, bs, l, v3, v4, rfl, s1, nc, eq, hbs, hc, hrc, okc, lc, li⟩
      rw [List.length_map, hms.len, List.drop_length] at hrc
      have : rowsCommuted ss ms = some (l, cur) := by
        rw [hrc]
        simp [rowsCommuted]
      rw [this] at k
      refine ⟨_, rfl, _, rfl, (by show 2 ≤ sizeLine; decide), fun t nt => ?_⟩
      refine alloc nt fun H2 s2 e2 => ?_
      exact k H2 _ (s1.trans s2) ⟨t, q, c, rfl, e2, ⟨bs, s2 _ _ eq, steps_same hbs s2⟩, hc.same s2⟩
theorem rc_ok : ∀ {m : List St'} {l l2 m2 : List St'}, rowsCommuted l m = some (m2, l2) → (∀ s ∈ l, Okk s) → (∀ s ∈ m, Okk s) → (∀ s ∈ m2, Okk s) ∧ (∀ s ∈ l2, Okk s) ∧ m2.length = m.length ∧ l2.length = l.length
  | [], l, l2, m2, h, okl, _ => by
    simp only [rowsCommuted, Option.some.injEq, Prod.mk.injEq] at h
    obtain ⟨rfl, rfl⟩ := h
    exact ⟨fun _ h => (nomatch h), okl, rfl, rfl⟩
  | q :: m, l, l2, m2, h, okl, okm => by
    simp only [rowsCommuted] at h
    cases e : aheadOf l q with
    | error n => rw [e] at h; cases h
    | ok r =>
      rw [e] at h
      simp only at h
      obtain ⟨a, b, c⟩ := ah_ok (q1 := r.1) (l1 := r.2) e okl (okm q List.mem_cons_self)
      cases e2 : rowsCommuted r.2 m with
      | none => rw [e2] at h; cases h
      | some z =>
        rw [e2] at h
        simp only [Option.map_some, Option.some.injEq, Prod.mk.injEq] at h
        obtain ⟨rfl, rfl⟩ := h
        obtain ⟨d1, d2, d3, d4⟩ := rc_ok (m2 := z.1) (l2 := z.2) e2 b (fun s hs => okm s (List.mem_cons_of_mem _ hs))
        refine ⟨fun s hs => ?_, d2, by rw [List.length_cons, List.length_cons, d3], by omega⟩
        rcases List.mem_cons.mp hs with rfl | hs
        · exact a
        · exact d1 s hs
theorem turn_ok {l : List St'} (h : ∀ s ∈ l, Okk s) : ∀ s ∈ VapatBase.turnedAll l, Okk s := by
  intro s hs
  unfold VapatBase.turnedAll at hs
  rw [List.mem_reverse, List.mem_map] at hs
  obtain ⟨z, hz, rfl⟩ := hs
  exact ok_turn (h z hz)
theorem turn_len (l : List St') : (VapatBase.turnedAll l).length = l.length := by simp [VapatBase.turnedAll]
theorem rm_ok {a b : List St'} {y : List St' × List St'} (h : rowsMerged a b = some y) (oka : ∀ s ∈ a, Okk s) (okb : ∀ s ∈ b, Okk s) : (∀ s ∈ y.1, Okk s) ∧ (∀ s ∈ y.2, Okk s) ∧ y.1.length = b.length ∧ y.2.length = a.length := by
  unfold rowsMerged at h
  cases e : rowsCommuted (VapatBase.turnedAll a) b with
  | none => rw [e] at h; cases h
  | some z =>
    rw [e] at h
    simp only [Option.map_some, Option.some.injEq] at h
    subst h
    obtain ⟨d1, d2, d3, d4⟩ := rc_ok (m2 := z.1) (l2 := z.2) e (turn_ok oka) okb
    rw [turn_len] at d4
    exact ⟨d1, turn_ok d2, d3, by rw [turn_len, d4]⟩
def sp_merged (X : Txt K mg) : Sp := fun vs H Q _ => ∃ (r o : Addr) (a b : List St'), vs = [.ref r, .ref o] ∧ RowAt K X.C_Step H r a ∧ RowAt K X.C_Step H o b ∧ (∀ s ∈ a, Okk s) ∧ (∀ s ∈ b, Okk s) ∧ a.length ≤ 1000 ∧ b.length ≤ 1000 ∧ Post H Q (MgR K X.C_Step (rowsMerged a b))
theorem ok_merged (X : Txt K mg) : FnOk P w K mg base CX0 9 X.d_merged.f X.d_merged.fd ["row", "other"] (sp_merged X) := by
  refine X.d_merged.F.ok sc_merged (fun vs H Q E h => ?_) (fun cdv A outer s0 H vs Q E hr h => ?_)
  · obtain ⟨r, o, a, b, rfl, _⟩ := h
    rfl
  · obtain ⟨r, o, a, b, rfl, hA, hB, oka, okb, la, lb, k⟩ := h
    refine ⟨_, (pss_cons (ps_set (i := 2) sc_merged.nd rfl (.inl rfl) (pe_call (ok_row_brought_ahead X) (hr.mono (by decide)) rfl X.d_row_brought_ahead.g X.d_row_brought_ahead.F.kp X.d_row_brought_ahead.b .nil pass0 (pa_cons (pe_call (ok_turned_row X) (hr.mono (by decide)) rfl X.d_turned_row.g X.d_turned_row.F.kp X.d_turned_row.b .nil pass0 (pa_cons (pv 0) pa_nil)) (pa_cons (pv 1) pa_nil))))
        (pss_cons (ps_if (pt_cmp (pc_isN (pv 2)) rfl) (pss_one (ps_ret pe_non)) pss_nil)
        (pss_one (ps_ret (pe_tup (pa_cons (pe_ix ix_tup (pv 2) pe_int (fun _ _ => rfl)) (pa_cons (pe_call (ok_turned_row X) (hr.mono (by decide)) rfl X.d_turned_row.g X.d_turned_row.F.kp X.d_turned_row.b .nil pass0 (pa_cons (pe_ix ix_tup (pv 2) pe_int (fun _ _ => rfl)) pa_nil)) pa_nil))))))), ?_⟩
    refine ⟨_, rfl, r, a, rfl, hA, la, fun H1 v1 s1 r1 => ?_⟩
    obtain ⟨c, rfl, hc⟩ := r1
    refine ⟨_, rfl, c, o, _, b, rfl, hc, hB.same s1, turn_ok oka, okb, by rw [turn_len]; exact la, lb, fun H2 v2 s2 r2 => ?_⟩
    have s12 := s1.trans s2
    unfold rowsMerged at k
    cases e : rowsCommuted (VapatBase.turnedAll a) b with
    | none =>
      rw [e] at r2 k
      cases (show v2 = .non from r2)
      refine ⟨_, rfl, _, rfl, ?_⟩
      exact ifT rfl (k H2 _ s12 rfl)
    | some z =>
      rw [e] at r2 k
      obtain ⟨d1, d2, d3, d4⟩ := rc_ok (m2 := z.1) (l2 := z.2) e (turn_ok oka) okb
      obtain ⟨t, r1, r2', rfl, et, h1, h2⟩ := r2
      refine ⟨_, rfl, _, rfl, ?_⟩
      refine ifF rfl ?_
      refine ⟨_, rfl, _, _, _, _, rfl, rfl, SqT.of et, rfl, ?_⟩
      refine ⟨_, rfl, _, _, _, _, rfl, rfl, SqT.of et, rfl, r2', z.2, rfl, h2, by rw [d4, turn_len]; exact la, fun H3 v3 s3 r3 => ?_⟩
      obtain ⟨c3, rfl, h3⟩ := r3
      refine ⟨(by show 2 ≤ sizeLine; decide), fun t2 n2 => ?_⟩
      refine alloc n2 fun H4 s4 e4 => ?_
      exact k H4 _ ((s12.trans s3).trans s4) ⟨t2, r1, c3, rfl, e4, h1.same (s3.trans s4), h3.same s4⟩
end
end Rw

/-! part RwConf -/
set_option Elab.async false
set_option linter.all false
set_option maxRecDepth 100000
set_option maxHeartbeats 4000000
namespace Rw
open PySem PySem.Spec PyProof.Rows L2
open VapatBase (Tokens)
/-! Blocks, conflicts, what is left. -/
open Vapatb (aheadOf behind rowsCommuted needsFrom)
open Vapatd (rowsMerged blockFrom blockOf)
abbrev ndsO := Vapatb.needs
def fB (n r : Addr) : List (Str × V) := [("among", .ref n), ("row", .ref r)]
theorem fB_among {n r : Addr} : (fB n r).lookup ("among" : Str) = some (.ref n) := lk_here
theorem fB_row {n r : Addr} : (fB n r).lookup ("row" : Str) = some (.ref r) := (lk_past (by decide +kernel)).trans lk_here
/-- a block stands at a -/
structure BlkIn (K : PySem.W.Frag) (CB C : Addr) (H : Hp) (a : Addr) (ns : List Nat) (ss : List St') (dx n r : Addr) : Prop where
  ins : H a = some (.ins CB dx (fB n r))
  among : H n = some (.lst (tok ns))
  row : RowAt K C H r ss
def BlkAt (K : PySem.W.Frag) (CB C : Addr) (H : Hp) (a : Addr) (ns : List Nat) (ss : List St') : Prop := ∃ dx n r, BlkIn K CB C H a ns ss dx n r
theorem BlkIn.same {K : PySem.W.Frag} {CB C a dx n r : Addr} {H H' : Hp} {ns : List Nat} {ss : List St'} (h : BlkIn K CB C H a ns ss dx n r) (s : Same H H') : BlkIn K CB C H' a ns ss dx n r := ⟨s _ _ h.ins, s _ _ h.among, h.row.same s⟩
theorem BlkAt.same {K : PySem.W.Frag} {CB C a : Addr} {H H' : Hp} {ns : List Nat} {ss : List St'} (h : BlkAt K CB C H a ns ss) (s : Same H H') : BlkAt K CB C H' a ns ss := by
  obtain ⟨dx, n, r, h⟩ := h
  exact ⟨dx, n, r, h.same s⟩
/-- a block whose lists are new over H0 -/
def BlkNew (K : PySem.W.Frag) (CB C : Addr) (H0 H : Hp) (a : Addr) (ns : List Nat) (ss : List St') : Prop := ∃ dx n r, BlkIn K CB C H a ns ss dx n r ∧ H0 n = none ∧ H0 r = none
theorem BlkIn.off {K : PySem.W.Frag} {CB C a dx n r q : Addr} {H H' : Hp} {ns : List Nat} {ss : List St'} {xs : List V} (h : BlkIn K CB C H a ns ss dx n r) (e : H q = some (.lst xs)) (hn : n ≠ q) (hr : r ≠ q) (o : Off q H H') : BlkIn K CB C H' a ns ss dx n r :=
  ⟨o _ _ (ne_of h.ins e (by intro z; cases z)) h.ins, o _ _ hn h.among, h.row.off (.inl ⟨_, e⟩) hr o⟩
def BlkR (K : PySem.W.Frag) (CB C : Addr) (H0 : Hp) (ns : List Nat) (ss : List St') (H : Hp) (v : V) : Prop := ∃ a dx n r, v = .ref a ∧ BlkIn K CB C H a ns ss dx n r ∧ H0 n = none ∧ H0 r = none
/-- behind some turns: what is still to be looked at, the block so far -/
def BlkGo (row : List St') (i : Nat) (q : St') (m : Nat) (ns : List Nat) (bl : List St') : Prop :=
  blockFrom (row.take i).reverse [q] = blockFrom (row.take m).reverse bl ∧ needsFrom (row.take i).zipIdx.reverse [q] [] = needsFrom (row.take m).zipIdx.reverse bl ns
theorem zip_more {row : List St'} {m : Nat} {x : St'} (h : row[m]? = some x) : (row.take (m + 1)).zipIdx.reverse = (x, m) :: (row.take m).zipIdx.reverse := by
  have hm := (List.getElem?_eq_some_iff.mp h).1
  rw [RM.take_more h, List.zipIdx_append, List.reverse_append]
  simp
  omega
theorem blk_ok {row bl l : List St'} {i m : Nat} {q x p' : St'} {ns : List Nat} (h : BlkGo row i q (m + 1) ns bl) (e : row[m]? = some x) (c : behind x bl = .ok (l, p')) : BlkGo row i q m ns l := by
  obtain ⟨h1, h2⟩ := h
  refine ⟨h1.trans ?_, h2.trans ?_⟩
  · rw [RM.take_more e, List.reverse_append]
    simp only [List.reverse_cons, List.reverse_nil, List.nil_append, List.singleton_append, blockFrom, c]
  · rw [zip_more e]
    simp only [needsFrom, c]
theorem blk_no {row bl : List St'} {i m n : Nat} {q x : St'} {ns : List Nat} (h : BlkGo row i q (m + 1) ns bl) (e : row[m]? = some x) (c : behind x bl = .error n) : BlkGo row i q m (m :: ns) (x :: bl) := by
  obtain ⟨h1, h2⟩ := h
  refine ⟨h1.trans ?_, h2.trans ?_⟩
  · rw [RM.take_more e, List.reverse_append]
    simp only [List.reverse_cons, List.reverse_nil, List.nil_append, List.singleton_append, blockFrom, c]
  · rw [zip_more e]
    simp only [needsFrom, c]
theorem bh_ok {p p' : St'} : ∀ {l l1 : List St'}, RM.Bh p l l1 p' → Okk p → (∀ s ∈ l, Okk s) → (∀ s ∈ l1, Okk s) := by
  intro l l1 h
  induction h with
  | nil => intro _ _ s hs; cases hs
  | cons e _ ih =>
    intro hp hl s hs
    obtain ⟨o1, o2⟩ := ok_comm e hp (hl _ List.mem_cons_self)
    rcases List.mem_cons.mp hs with rfl | hs
    · exact o1
    · exact ih o2 (fun z hz => hl z (List.mem_cons_of_mem _ hz)) s hs
section
variable {P : Program} {w : World} {K : PySem.W.Frag} {mg : Str → Option Value} {base : Heap}
def sp_Block_init (X : Txt K mg) : Sp := fun vs H Q _ => ∃ (p dx n r : Addr), vs = [.ref p, .ref n, .ref r] ∧ H p = some (.ins X.C_Block dx []) ∧ ∀ H' : Hp, Off p H H' → H' p = some (.ins X.C_Block dx (fB n r)) → Q .non H'
theorem ok_Block_init (X : Txt K mg) : FnOk P w K mg base CX0 1 X.m_Block_init.f X.m_Block_init.fd ["self", "numbers", "row"] (sp_Block_init X) := by
  refine X.m_Block_init.F.ok sc_Block_init (fun vs H Q E h => ?_) (fun cdv A outer s0 H vs Q E hr h => ?_)
  · obtain ⟨p, dx, n, r, rfl, _⟩ := h
    rfl
  · obtain ⟨p, dx, n, r, rfl, hp, q⟩ := h
    refine ⟨_, (pss_cons (ps_fld (pv 0) (pv 1) rfl)
        (pss_one (ps_fld (pv 0) (pv 2) rfl))), ?_⟩
    refine ⟨_, rfl, _, rfl, p, _, dx, _, rfl, hp, X.cl_Block, X.na_Block_among, (by show 0 < 1000; decide), ?_⟩
    refine ⟨_, rfl, _, rfl, p, _, dx, _, rfl, upd_same, X.cl_Block, X.na_Block_row, (by show 1 < 1000; decide), ?_⟩
    rw [upd_upd]
    refine q _ Off.upd ?_
    rw [upd_same]
    exact congrArg (fun z => some (HO.ins X.C_Block dx z)) (put_past (by decide +kernel))
theorem make_block (X : Txt K mg) {H1 : Hp} {Q : VK} {n r : Addr} {ns : List Nat} {ss : List St'} (hn : H1 n = some (.lst (tok ns))) (hr : RowAt K X.C_Step H1 r ss) (q : ∀ (H' : Hp) (a dx : Addr), Same H1 H' → BlkIn K X.C_Block X.C_Step H' a ns ss dx n r → Q (.ref a) H') :
    ∀ x dx, H1 x = none → H1 dx = none → dx ≠ x → sp_Block_init X (.ref x :: ([.ref n, .ref r] ++ [])) (upd (upd H1 dx (.own x)) x (.ins X.C_Block dx [])) (fun v H2 => v = .non ∧ Q (.ref x) H2) E0 := by
  intro x dx nx nd ne
  refine ⟨x, dx, n, r, rfl, upd_same, fun H' off e => ⟨rfl, ?_⟩⟩
  have sm : Same H1 H' := Same.made' nx nd off
  exact q H' x dx sm ⟨e, sm _ _ hn, hr.same sm⟩
def sp_block_of (X : Txt K mg) : Sp := fun vs H Q _ => ∃ (r : Addr) (ss : List St') (i : Nat), vs = [.ref r, vN i] ∧ RowAt K X.C_Step H r ss ∧ i < ss.length ∧ ss.length ≤ 100 ∧ (∀ s ∈ ss, Okk s) ∧ Post H Q (BlkR K X.C_Block X.C_Step H (ndsO ss i ++ [i]) (blockOf ss i))
theorem ok_block_of (X : Txt K mg) : FnOk P w K mg base CX0 8 X.d_block_of.f X.d_block_of.fd ["row", "number"] (sp_block_of X) := by
  refine X.d_block_of.F.ok sc_block_of (fun vs H Q E h => ?_) (fun cdv A outer s0 H vs Q E hr h => ?_)
  · obtain ⟨r, ss, i, rfl, _⟩ := h
    rfl
  · obtain ⟨r, ss, i, rfl, ⟨as, hrow, hss⟩, hi, hl, oks, k⟩ := h
    refine ⟨_, (pss_cons (ps_set (i := 2) sc_block_of.nd rfl (.inl rfl) (pe_lst pa_nil))
        (pss_cons (ps_set (i := 3) sc_block_of.nd rfl (.inl rfl) (pe_lst (pa_cons (pe_ix ix_list (pv 0) (pv 1) (fun _ _ => rfl)) pa_nil)))
        (pss_cons (ps_for PassesOwn.never rfl (pi_range3 (by rfl) X.b_range (pa_cons (pe_op op_sub (pv 1) pe_int) (pa_cons (pe_un un_neg pe_int) (pa_cons (pe_un un_neg pe_int) pa_nil)))) (pg_name (i := 4) sc_block_of.nd rfl (.inl rfl)) (pss_cons (ps_set (i := 5) sc_block_of.nd rfl (.inl rfl) (pe_call (ok_brought_behind X) (hr.mono (by decide)) rfl X.d_brought_behind.g X.d_brought_behind.F.kp X.d_brought_behind.b .nil pass0 (pa_cons (pe_ix ix_list (pv 0) (pv 4) (fun _ _ => rfl)) (pa_cons (pv 3) pa_nil))))
        (pss_one (ps_if (pt_cmp (pc_isN (pv 5)) rfl) (pss_cons (ps_set (i := 2) sc_block_of.nd rfl (.inl rfl) (pe_op op_cat (pe_lst (pa_cons (pv 4) pa_nil)) (pv 2)))
        (pss_one (ps_set (i := 3) sc_block_of.nd rfl (.inl rfl) (pe_op op_cat (pe_lst (pa_cons (pe_ix ix_list (pv 0) (pv 4) (fun _ _ => rfl)) pa_nil)) (pv 3))))) (pss_one (ps_set (i := 3) sc_block_of.nd rfl (.inl rfl) (pe_ix ix_tup (pv 5) pe_int (fun _ _ => rfl))))))))
        (pss_one (ps_ret (pe_make X.mk_Block (ok_Block_init X) (hr.mono (by decide)) rfl X.g_Block X.m_Block_init.b .nil pass0 (pa_cons (pe_op op_cat (pv 2) (pe_lst (pa_cons (pv 1) pa_nil))) (pa_cons (pv 3) pa_nil)))))))), ?_⟩
    have la : as.length = ss.length := hss.len
    have ai : as[i]? = some as[i] := List.getElem?_eq_getElem (by omega)
    obtain ⟨q, eq, hq⟩ := hss.get ai
    refine ⟨Nat.zero_le _, fun p0 n0 => ?_⟩
    refine alloc n0 fun H0 s0 e0 => ?_
    refine ⟨_, rfl, _, rfl, r, _, _, _, rfl, rfl, SqL.of (s0 _ _ hrow), atI_nat (by rw [List.getElem?_map, ai]; rfl), (by show 1 ≤ sizeLine; decide), fun p1 n1 => ?_⟩
    refine alloc n1 fun H1 s1 e1 => ?_
    have s01 := s0.trans s1
    have g0 : BlkGo ss i q i [] [q] := ⟨rfl, rfl⟩
    refine ⟨_, rfl, _, _, rfl, rfl, _, rfl, _, rfl, _, _, _, i, rfl, ?_, ?_⟩
    · have := RgC.neg (i := (i : Int) - 1) (j := -1) (by omega) (by omega) (by omega) (by omega)
      have e : ((i : Int) - 1 - -1).toNat = i := by omega
      rw [e] at this
      exact this
    refine for_it walk_rangeC (fun t σ H' => ∃ (f g : Addr) (ns : List Nat) (bl : List St') (v4 v5 : Option V), σ = [some (.ref r), some (vN i), some (.ref f), some (.ref g), v4, v5] ∧ Same H H' ∧ H' f = some (.lst (tok ns)) ∧ H g = none ∧ RowAt K X.C_Step H' g bl ∧ BlkGo ss i q (i - t) ns bl ∧ (∀ s ∈ bl, Okk s) ∧ bl.length ≤ t + 1 ∧ ns.length ≤ t ∧ t ≤ i)
      ⟨p0, p1, [], [q], none, none, rfl, s01, s1 _ _ e0, s0.free n1, ⟨[as[i]], e1, .one (hq.same s01)⟩, g0, fun s hs => by rw [List.mem_singleton.mp hs]; exact oks q (List.mem_of_getElem? eq), Nat.le_refl _, Nat.le_refl _, Nat.zero_le _⟩ (fun _ _ _ _ _ => trivial) ?_ ?_
    · rintro t x σ H2 H3 ht ⟨f, g, ns, bl, v4, v5, rfl, s2, ef, ng, hg, go, okb, lb, ln, hti⟩ ⟨rfl, rfl⟩
      have em : (i : Int) - 1 + (t : Int) * -1 = ((i - t - 1 : Nat) : Int) := by omega
      have am : as[i - t - 1]? = some as[i - t - 1] := List.getElem?_eq_getElem (by omega)
      obtain ⟨x, ex, hx⟩ := hss.get am
      have okx := oks x (List.mem_of_getElem? ex)
      have go' : BlkGo ss i q (i - t - 1 + 1) ns bl := by
        have : i - t - 1 + 1 = i - t := by omega
        rw [this]
        exact go
      have ixr : ∀ {H' : Hp}, Same H H' → atI (as.map V.ref) ((fun (i_1 : Nat) => (i : Int) - 1 + (i_1 : Int) * -1) t) = some (.ref as[i - t - 1]) := fun _ => by
        show atI (as.map V.ref) ((i : Int) - 1 + (t : Int) * -1) = _
        rw [em]
        exact atI_nat (by rw [List.getElem?_map, am]; rfl)
      refine ⟨_, rfl, _, rfl, r, _, _, _, rfl, rfl, SqL.of (s2 _ _ hrow), ixr s2, _, rfl, as[i - t - 1], g, x, bl, rfl, hx.same s2, hg, okx, okb, by omega, fun H4 v4 s4 r4 => ?_⟩
      have s24 := s2.trans s4
      cases c : behind x bl with
      | error n =>
        rw [c] at r4
        cases (show v4 = .non from r4)
        refine ⟨_, rfl, _, rfl, ?_⟩
        refine ifT rfl ?_
        refine ⟨_, rfl, (by show 1 ≤ sizeLine; decide), fun p5 n5 => ?_⟩
        refine alloc n5 fun H5 s5 e5 => ?_
        refine ⟨_, rfl, _, _, _, _, rfl, rfl, e5, s5 _ _ (s4 _ _ ef), line_le (by simp only [List.length_cons, List.length_nil, tok_len]; omega), fun p6 n6 => ?_⟩
        refine alloc n6 fun H6 s6 e6 => ?_
        have s26 := (s24.trans s5).trans s6
        have s46 := s5.trans s6
        obtain ⟨bs, eg, hbs⟩ := hg
        refine ⟨_, rfl, _, rfl, r, _, _, _, rfl, rfl, SqL.of (s26 _ _ hrow), ixr s26, (by show 1 ≤ sizeLine; decide), fun p7 n7 => ?_⟩
        refine alloc n7 fun H7 s7 e7 => ?_
        refine ⟨_, rfl, _, _, _, _, rfl, rfl, e7, s7 _ _ (s46 _ _ (s4 _ _ eg)), line_le (by simp only [List.length_cons, List.length_nil, List.length_map, hbs.len]; omega), fun p8 n8 => ?_⟩
        refine alloc n8 fun H8 s8 e8 => ?_
        have s28 := (s26.trans s7).trans s8
        have s48 := (s46.trans s7).trans s8
        refine ⟨p6, p8, (i - t - 1) :: ns, x :: bl, _, _, rfl, s28, ?_, (s26.trans s7).free n8, ⟨as[i - t - 1] :: bs, e8, .cons (hx.same s28) (steps_same hbs (s4.trans s48))⟩, ?_, ?_, ?_, ?_, by omega⟩
        · rw [(s7.trans s8) _ _ e6]
          show some (HO.lst (V.int ((i : Int) - 1 + (t : Int) * -1) :: tok ns)) = _
          rw [em]
          rfl
        · have : i - (t + 1) = i - t - 1 := by omega
          rw [this]
          exact blk_no go' ex c
        · intro s hs
          rcases List.mem_cons.mp hs with rfl | hs
          · exact okx
          · exact okb s hs
        · rw [List.length_cons]
          omega
        · rw [List.length_cons]
          omega
      | ok y =>
        rw [c] at r4
        obtain ⟨t4, r4, d4, rfl, et, nr4, hr4, hd4⟩ := r4
        refine ⟨_, rfl, _, rfl, ?_⟩
        refine ifF rfl ?_
        refine ⟨_, rfl, _, _, _, _, rfl, rfl, SqT.of et, rfl, ?_⟩
        have bh := (RM.bh_iff _ _ y.1 y.2).mp c
        refine ⟨f, r4, ns, y.1, _, _, rfl, s24, s4 _ _ ef, s2.free nr4, hr4, ?_, bh_ok bh okx okb, by rw [bh.len]; omega, by omega, by omega⟩
        have : i - (t + 1) = i - t - 1 := by omega
        rw [this]
        exact blk_ok go' ex c
    · rintro σ H2 ⟨f, g, ns, bl, v4, v5, rfl, s2, ef, ng, hg, go, okb, lb, ln, hti⟩
      rw [Nat.sub_self] at go
      obtain ⟨g1, g2⟩ := go
      have eb : blockOf ss i = bl := by
        rw [RM.bo_at eq, g1]
        rfl
      have en : ndsO ss i = ns := by
        unfold ndsO Vapatb.needs
        rw [eq]
        exact g2
      rw [eb, en] at k
      refine ⟨_, rfl, _, rfl, (by show 1 ≤ sizeLine; decide), fun p5 n5 => ?_⟩
      refine alloc n5 fun H5 s5 e5 => ?_
      refine ⟨_, _, _, _, rfl, rfl, s5 _ _ ef, e5, line_le (by simp only [List.length_cons, List.length_nil, tok_len]; omega), fun p6 n6 => ?_⟩
      refine alloc n6 fun H6 s6 e6 => ?_
      have s56 := s5.trans s6
      refine ⟨_, rfl, ?_⟩
      refine make_block X ?_ (hg.same s56) fun H7 a7 dx7 s7 h7 => k H7 _ ((s2.trans s56).trans s7) ⟨a7, dx7, p6, g, rfl, h7, (s2.trans s5).free n6, ng⟩
      rw [e6]
      simp [tok]
def sp_all_blocks (X : Txt K mg) : Sp := fun vs H Q _ => ∃ (r : Addr) (ss : List St'), vs = [.ref r] ∧ RowAt K X.C_Step H r ss ∧ ss.length ≤ 100 ∧ (∀ s ∈ ss, Okk s) ∧
  ∀ (H' : Hp) (p : Addr) (bs : List Addr), Same H H' → H p = none → H' p = some (.lst (bs.map V.ref)) → Two (fun b i => BlkNew K X.C_Block X.C_Step H H' b (ndsO ss i ++ [i]) (blockOf ss i)) bs (List.range ss.length) → Q (.ref p) H'
theorem ok_all_blocks (X : Txt K mg) : FnOk P w K mg base CX0 9 X.d_all_blocks.f X.d_all_blocks.fd ["row"] (sp_all_blocks X) := by
  refine X.d_all_blocks.F.ok sc_all_blocks (fun vs H Q E h => ?_) (fun cdv A outer s0 H vs Q E hr h => ?_)
  · obtain ⟨r, ss, rfl, _⟩ := h
    rfl
  · obtain ⟨r, ss, rfl, ⟨as, hrow, hss⟩, hl, oks, k⟩ := h
    refine ⟨_, (pss_one (ps_ret (pe_lc (own := [("number", 1)])  rfl sc_all_blocks.nd (pi_range1 (by rfl) X.b_range (pa_cons (pe_callB call_len_seq (by rfl) X.b_len (by decide +kernel) (pa_cons (pv 0) pa_nil)) pa_nil)) (blkOk_by (own := [("number", 1)]) (N := n_all_blocks) (sc := defScope s_all_blocks) (by decide +kernel)) (fun _ _ _ _ _ => (pg_name (i := 1) sc_all_blocks.nd rfl (.inl rfl))) (fun _ _ _ _ _ => pts_nil) (fun _ _ _ _ _ => (pe_call (ok_block_of X) (hr.mono (by decide)) rfl X.d_block_of.g X.d_block_of.F.kp X.d_block_of.b .nil pass0 (pa_cons (pv 0) (pa_cons (pv 1) pa_nil))))))), ?_⟩
    have la : as.length = ss.length := hss.len
    refine ⟨_, rfl, _, _, rfl, .inl (SqL.of hrow), _, rfl, by rw [List.length_map]; omega, by rw [List.length_map]; omega, fun D hD => ?_⟩
    have en : (((as.map V.ref).length : Nat) : Int).toNat = ss.length := by rw [List.length_map, la]; rfl
    rw [en]
    refine lc_it walk_range (fun i H' => ∃ bs, Same H H' ∧ H' D = some (.lst (bs.map V.ref)) ∧ Two (fun b i => ∃ dx n r, BlkIn K X.C_Block X.C_Step H' b (ndsO ss i ++ [i]) (blockOf ss i) dx n r ∧ (n ≠ D ∧ r ≠ D) ∧ H n = none ∧ H r = none) bs (List.range i)) ⟨[], same_upd hD, upd_same, .nil⟩ (fun _ _ _ _ => trivial) ?_ ?_
    · rintro i x H1 H2 hi ⟨bs, s1, eD, hbs⟩ ⟨rfl, rfl⟩
      have lb : bs.length = i := by rw [hbs.len, List.length_range]
      refine ⟨rfl, _, rfl, _, rfl, r, ss, i, ?_, ⟨as, s1 _ _ hrow, steps_same hss s1⟩, hi, hl, oks, fun H3 v s3 r3 => ?_⟩
      · show [V.ref r, V.int (0 + (i : Int))] = [V.ref r, V.int (i : Int)]
        rw [Int.zero_add]
      obtain ⟨b, dx, n, r', rfl, hb, fn, fr⟩ := r3
      have eD3 : H3 D = some (.lst (bs.map V.ref)) := s3 _ _ eD
      have nn : n ≠ D := fun z => by rw [z, eD] at fn; cases fn
      have nr : r' ≠ D := fun z => by rw [z, eD] at fr; cases fr
      have sD : Soft H3 D := .inl ⟨_, eD3⟩
      have keep : ∀ {b : Addr} {j : Nat} {dx n r : Addr}, BlkIn K X.C_Block X.C_Step H3 b (ndsO ss j ++ [j]) (blockOf ss j) dx n r → n ≠ D → r ≠ D → BlkIn K X.C_Block X.C_Step (upd H3 D (.lst (bs.map V.ref ++ [.ref b]))) b (ndsO ss j ++ [j]) (blockOf ss j) dx n r := fun h h1 h2 =>
        ⟨by rw [upd_ne (ne_of h.ins eD3 (by intro z; cases z))]; exact h.ins, by rw [upd_ne h1]; exact h.among, h.row.off sD h2 Off.upd⟩
      have keep' : ∀ {b b' : Addr} {j : Nat} {dx n r : Addr}, BlkIn K X.C_Block X.C_Step H3 b (ndsO ss j ++ [j]) (blockOf ss j) dx n r → n ≠ D → r ≠ D → BlkIn K X.C_Block X.C_Step (upd H3 D (.lst (bs.map V.ref ++ [.ref b']))) b (ndsO ss j ++ [j]) (blockOf ss j) dx n r := fun h h1 h2 =>
        ⟨by rw [upd_ne (ne_of h.ins eD3 (by intro z; cases z))]; exact h.ins, by rw [upd_ne h1]; exact h.among, h.row.off sD h2 Off.upd⟩
      refine ⟨_, eD3, line_lt (by rw [List.length_map]; omega), bs ++ [b], same_off (s1.trans s3) hD Off.upd, by rw [upd_same, List.map_append]; rfl, ?_⟩
      rw [List.range_succ]
      refine Two.app (Two.imp hbs fun b' j ⟨dx', n', r'', h1, ⟨h2, h3⟩, h4⟩ => ⟨dx', n', r'', keep' (h1.same s3) h2 h3, ⟨h2, h3⟩, h4⟩) (.one ⟨dx, n, r', keep hb nn nr, ⟨nn, nr⟩, s1.free fn, s1.free fr⟩)
    · rintro H1 ⟨bs, s1, eD, hbs⟩
      exact k H1 D bs s1 hD eD (Two.imp hbs fun b j ⟨dx, n, r, h, _, h4⟩ => ⟨dx, n, r, h, h4⟩)
end
end Rw

/-! part RwConf2 -/
set_option Elab.async false
set_option linter.all false
set_option maxRecDepth 100000
set_option maxHeartbeats 4000000
namespace Rw
open PySem PySem.Spec PyProof.Rows L2
open VapatBase (Tokens)
/-! Conflicts. -/
open Vapatb (aheadOf behind rowsCommuted)
open Vapatd (rowsMerged blockFrom blockOf conflict allConflicts)
theorem bf_ok2 : ∀ (l X : List St'), (∀ s ∈ l, Okk s) → (∀ s ∈ X, Okk s) → (∀ s ∈ blockFrom l X, Okk s) ∧ (blockFrom l X).length ≤ l.length + X.length
  | [], X, _, hX => ⟨hX, by simp [blockFrom]⟩
  | x :: l, X, hl, hX => by
    have okx := hl x List.mem_cons_self
    have okl : ∀ s ∈ l, Okk s := fun s hs => hl s (List.mem_cons_of_mem _ hs)
    simp only [blockFrom]
    split
    · rename_i b p e
      have bh := (RM.bh_iff _ _ b p).mp e
      obtain ⟨a1, a2⟩ := bf_ok2 l b okl (bh_ok bh okx hX)
      rw [bh.len] at a2
      exact ⟨a1, by rw [List.length_cons]; omega⟩
    · obtain ⟨a1, a2⟩ := bf_ok2 l (x :: X) okl (fun s hs => by
        rcases List.mem_cons.mp hs with rfl | hs
        · exact okx
        · exact hX s hs)
      refine ⟨a1, ?_⟩
      rw [List.length_cons] at a2 ⊢
      omega
theorem bo_ok {ss : List St'} {i : Nat} (ok : ∀ s ∈ ss, Okk s) (hi : i < ss.length) : (∀ s ∈ blockOf ss i, Okk s) ∧ (blockOf ss i).length ≤ ss.length := by
  have e : ss[i]? = some ss[i] := List.getElem?_eq_getElem hi
  rw [RM.bo_at e]
  obtain ⟨a1, a2⟩ := bf_ok2 (ss.take i).reverse [ss[i]] (fun s hs => ok s (List.mem_of_mem_take (List.mem_reverse.mp hs))) (fun s hs => by
    rw [List.mem_singleton.mp hs]
    exact ok _ (List.getElem_mem hi))
  refine ⟨a1, Nat.le_trans a2 ?_⟩
  rw [List.length_reverse, List.length_take, List.length_singleton]
  omega
/-- pairs of numbers as tuples -/
abbrev PairsAt (H : Hp) : List Addr → List (Nat × Nat) → Prop := Two fun t p => H t = some (.tup [vN p.1, vN p.2])
theorem pairs_same {H H' : Hp} {ts : List Addr} {ps : List (Nat × Nat)} (h : PairsAt H ts ps) (s : Same H H') : PairsAt H' ts ps := Two.imp h fun _ _ e => s _ _ e
theorem pairs_off {H H' : Hp} {q : Addr} {xs : List V} {ts : List Addr} {ps : List (Nat × Nat)} (h : PairsAt H ts ps) (e : H q = some (.lst xs)) (o : Off q H H') : PairsAt H' ts ps := Two.imp h fun _ _ z => o _ _ (ne_of z e (by intro z; cases z)) z
def PairsR (ps : List (Nat × Nat)) (H : Hp) (v : V) : Prop := ∃ p ts, v = .ref p ∧ H p = some (.lst (ts.map V.ref)) ∧ PairsAt H ts ps
theorem rfilter_more {i : Nat} {p : Nat → Bool} : (List.range (i + 1)).filter p = (List.range i).filter p ++ (if p i then [i] else []) := by
  rw [List.range_succ, List.filter_append]
  congr 1
  rw [List.filter_cons]
  split <;> rfl
theorem fm_more {f : Nat → List (Nat × Nat)} {i : Nat} : (List.range (i + 1)).flatMap f = (List.range i).flatMap f ++ f i := by
  rw [List.range_succ, List.flatMap_append]
  simp
theorem fm_len {f : Nat → List (Nat × Nat)} {m : Nat} (h : ∀ i, (f i).length ≤ m) : ∀ n, ((List.range n).flatMap f).length ≤ n * m
  | 0 => Nat.zero_le _
  | n + 1 => by
    rw [fm_more, List.length_append, Nat.succ_mul]
    have := fm_len h n
    have := h n
    omega
section
variable {P : Program} {w : World} {K : PySem.W.Frag} {mg : Str → Option Value} {base : Heap}
theorem r_brow {σ : L2.St} {H : Hp} {Q : V → Prop} {a dx n r : Addr} {ns : List Nat} {ss : List St'} {i : Nat} {C : Addr} (X : Txt K mg) (h : BlkIn K X.C_Block C H a ns ss dx n r) (q : Q (.ref r)) (e : σ[i]? = some (some (.ref a)) := by rfl) :
    ∃ u, σ[i]? = some (some u) ∧ ∃ b C d fs v, u = .ref b ∧ H b = some (.ins C d fs) ∧ Cls K C ∧ NoAttr K C "row" ∧ fs.lookup ("row" : Str) = some v ∧ Q v := ⟨_, e, a, _, dx, _, _, rfl, h.ins, X.cl_Block, X.na_Block_row, fB_row, q⟩
def sp_conflicting (X : Txt K mg) : Sp := fun vs H Q _ => ∃ (r o : Addr) (a b : List St'), vs = [.ref r, .ref o] ∧ RowAt K X.C_Step H r a ∧ RowAt K X.C_Step H o b ∧ a.length ≤ 100 ∧ b.length ≤ 100 ∧ (∀ s ∈ a, Okk s) ∧ (∀ s ∈ b, Okk s) ∧ Post H Q (PairsR (allConflicts a b))
theorem ok_conflicting (X : Txt K mg) : FnOk P w K mg base CX0 10 X.d_conflicting.f X.d_conflicting.fd ["row", "other"] (sp_conflicting X) := by
  refine X.d_conflicting.F.ok sc_conflicting (fun vs H Q E h => ?_) (fun cdv A outer s0 H vs Q E hr h => ?_)
  · obtain ⟨r, o, a, b, rfl, _⟩ := h
    rfl
  · obtain ⟨r, o, a, b, rfl, hA, hB, la, lb, oka, okb, k⟩ := h
    refine ⟨_, (pss_cons (ps_set (i := 2) sc_conflicting.nd rfl (.inl rfl) (pe_lst pa_nil))
        (pss_cons (ps_set (i := 3) sc_conflicting.nd rfl (.inl rfl) (pe_call (ok_all_blocks X) (hr.mono (by decide)) rfl X.d_all_blocks.g X.d_all_blocks.F.kp X.d_all_blocks.b .nil pass0 (pa_cons (pv 1) pa_nil)))
        (pss_cons (ps_for PassesOwn.never rfl (pi_enum (by rfl) X.b_enumerate (pa_cons (pe_call (ok_all_blocks X) (hr.mono (by decide)) rfl X.d_all_blocks.g X.d_all_blocks.F.kp X.d_all_blocks.b .nil pass0 (pa_cons (pv 0) pa_nil)) pa_nil)) (pg_tup rfl (pgs_cons (pg_name (i := 4) sc_conflicting.nd rfl (.inr rfl)) (pgs_cons (pg_name (i := 5) sc_conflicting.nd rfl (.inr rfl)) pgs_nil))) (pss_one (ps_expr (pe_bm PySem.F.plainAttrs_list PySem.F.slot_list_extend PySem.F.type_list_extend mt_extend (pv 2) (pa_cons (pe_lc (own := [("j", 6), ("block", 7)]) (g := gTup K 2 (gCons (gName 6) (gCons (gName 7) gNil))) (tt := tB (tIsN (tCall (sp_merged X) [] E0 (tCons (tFld K (tVar 5) "row") (tCons (tFld K (tVar 7) "row") tNil))))) rfl sc_conflicting.nd (pi_enum (by rfl) X.b_enumerate (pa_cons (pv 3) pa_nil)) (blkOk_by (own := [("j", 6), ("block", 7)]) (N := n_conflicting) (sc := defScope s_conflicting) (by decide +kernel)) (fun _ _ _ _ _ => (pg_tup rfl (pgs_cons (pg_name (i := 6) sc_conflicting.nd rfl (.inl rfl)) (pgs_cons (pg_name (i := 7) sc_conflicting.nd rfl (.inl rfl)) pgs_nil)))) (fun _ _ _ _ _ => (pts_one (pt_cmp (pc_isN (pe_call (ok_merged X) (hr.mono (by decide)) rfl X.d_merged.g X.d_merged.F.kp X.d_merged.b .nil pass0 (pa_cons (pe_fld (pv 5) rfl) (pa_cons (pe_fld (pv 7) rfl) pa_nil)))) rfl))) (fun _ _ _ _ _ => (pe_tup (pa_cons (pv 4) (pa_cons (pv 6) pa_nil))))) pa_nil)))))
        (pss_one (ps_ret (pv 2)))))), ?_⟩
    refine ⟨Nat.zero_le _, fun q nq => ?_⟩
    have s0 : Same H (upd H q (.lst [])) := same_upd nq
    have e0 : (upd H q (.lst [])) q = some (.lst []) := upd_same
    generalize upd H q (.lst []) = H0 at s0 e0
    refine ⟨_, rfl, o, b, rfl, hB.same s0, lb, okb, fun H1 pB bsB s1 nB eB hBs => ?_⟩
    refine ⟨_, rfl, r, a, rfl, (hA.same s0).same s1, la, oka, fun H2 pA bsA s2 nA eA hAs => ?_⟩
    have eq2 : H2 q = some (.lst []) := s2 _ _ (s1 _ _ e0)
    have nBq : pB ≠ q := fun z => by rw [z, e0] at nB; cases nB
    have nAq : pA ≠ q := fun z => by rw [z, s1 _ _ e0] at nA; cases nA
    -- the blocks, over the heap behind both
    have hB2 : Two (fun b' j => ∃ dx n r, BlkIn K X.C_Block X.C_Step H2 b' (ndsO b j ++ [j]) (blockOf b j) dx n r ∧ n ≠ q ∧ r ≠ q) bsB (List.range b.length) := Two.imp hBs fun b' j ⟨dx, n, r, h, h1, h2⟩ => ⟨dx, n, r, h.same s2, (fun z => by rw [z, e0] at h1; cases h1), (fun z => by rw [z, e0] at h2; cases h2)⟩
    have hA2 : Two (fun b' i => ∃ dx n r, BlkIn K X.C_Block X.C_Step H2 b' (ndsO a i ++ [i]) (blockOf a i) dx n r ∧ n ≠ q ∧ r ≠ q) bsA (List.range a.length) := Two.imp hAs fun b' j ⟨dx, n, r, h, h1, h2⟩ => ⟨dx, n, r, h, (fun z => by rw [z, s1 _ _ e0] at h1; cases h1), (fun z => by rw [z, s1 _ _ e0] at h2; cases h2)⟩
    have lA : bsA.length = a.length := by rw [hA2.len, List.length_range]
    have lB : bsB.length = b.length := by rw [hB2.len, List.length_range]
    have fl : ∀ i, (((List.range b.length).filter (conflict a b i)).map fun j => (i, j)).length ≤ 100 := fun i => by
      rw [List.length_map]
      refine Nat.le_trans (List.length_filter_le _ _) ?_
      rw [List.length_range]
      exact lb
    refine ⟨pA, _, rfl, SqL.of eA, for_it walk_enum (fun i σ H' => ∃ (ts : List Addr) (v4 v5 : Option V), σ = [some (.ref r), some (.ref o), some (.ref q), some (.ref pB), v4, v5, none, none] ∧ Off q H2 H' ∧ H' q = some (.lst (ts.map V.ref)) ∧ PairsAt H' ts ((List.range i).flatMap fun i => ((List.range b.length).filter (conflict a b i)).map fun j => (i, j)))
      ⟨[], none, none, rfl, fun _ _ _ e => e, eq2, .nil⟩ (fun i σ H' _ ⟨_, _, _, _, off, _, _⟩ => SqL.of (off _ _ nAq eA)) ?_ ?_⟩
    · rintro i x σ H3 H4 hi ⟨ts, v4, v5, rfl, off, eq3, hts⟩ ⟨T, x1, x2, rfl, nT, rfl, hx1, hx2⟩
      cases hx1
      rw [List.length_map] at hi
      obtain ⟨b1, hb1, rfl⟩ := ref_get hx2
      obtain ⟨i', hi', dx1, n1, r1, hblk1, hn1, hr1⟩ := hA2.get hb1
      have : i' = i := by
        rw [List.getElem?_range (by omega)] at hi'
        exact (Option.some.inj hi').symm
      subst this
      have s34 : Same H3 (upd H3 T (.tup [.int ((i' : Nat) : Int), .ref b1])) := same_upd nT
      have eT : (upd H3 T (.tup [.int ((i' : Nat) : Int), .ref b1])) T = some (.tup [.int ((i' : Nat) : Int), .ref b1]) := upd_same
      generalize upd H3 T (.tup [.int ((i' : Nat) : Int), .ref b1]) = H4 at s34 eT
      have eq4 := s34 _ _ eq3
      have off4 : Off q H2 H4 := fun c u n e => s34 _ _ (off c u n e)
      have blk1 : BlkIn K X.C_Block X.C_Step H4 b1 (ndsO a i' ++ [i']) (blockOf a i') dx1 n1 r1 := hblk1.off eq2 hn1 hr1 off4
      have eB4 : H4 pB = some (.lst (bsB.map V.ref)) := off4 _ _ nBq (s2 _ _ eB)
      have ltot : ts.length ≤ 100 * 100 := by
        rw [hts.len]
        exact Nat.le_trans (fm_len fl i') (Nat.mul_le_mul_right _ (by omega))
      obtain ⟨ok1, len1⟩ := bo_ok oka (i := i') (by omega)
      refine ⟨T, _, rfl, SqT.of eT, rfl, _, _, rfl, _, _, rfl, rfl, ?_⟩
      refine ⟨_, rfl, .inl ⟨rfl, _, SqL.of eq4⟩, _, rfl, pB, _, rfl, SqL.of eB4, fun D hD => ?_⟩
      refine lc_it walk_enum (fun j H' => ∃ us, Same H4 H' ∧ H' D = some (.lst (us.map V.ref)) ∧ PairsAt H' us (((List.range j).filter (conflict a b i')).map fun j => (i', j))) ⟨[], same_upd hD, upd_same, .nil⟩ (fun j H' _ ⟨_, s5, _, _⟩ => SqL.of (s5 _ _ eB4)) ?_ ?_
      · rintro j y H5 H6 hj ⟨us, s5, eD, hus⟩ ⟨T2, y1, y2, rfl, nT2, rfl, hy1, hy2⟩
        cases hy1
        rw [List.length_map] at hj
        obtain ⟨b2, hb2, rfl⟩ := ref_get hy2
        obtain ⟨j', hj', dx2, n2, r2, hblk2, hn2, hr2⟩ := hB2.get hb2
        have : j' = j := by
          rw [List.getElem?_range (by omega)] at hj'
          exact (Option.some.inj hj').symm
        subst this
        have s56 : Same H5 (upd H5 T2 (.tup [.int ((j' : Nat) : Int), .ref b2])) := same_upd nT2
        have eT2 : (upd H5 T2 (.tup [.int ((j' : Nat) : Int), .ref b2])) T2 = some (.tup [.int ((j' : Nat) : Int), .ref b2]) := upd_same
        generalize upd H5 T2 (.tup [.int ((j' : Nat) : Int), .ref b2]) = H6 at s56 eT2
        have s46 := s5.trans s56
        have blk2 : BlkIn K X.C_Block X.C_Step H6 b2 (ndsO b j' ++ [j']) (blockOf b j') dx2 n2 r2 := (hblk2.off eq2 hn2 hr2 off4).same s46
        obtain ⟨ok2, len2⟩ := bo_ok okb (i := j') (by omega)
        have lu : us.length ≤ 100 := by
          rw [hus.len, List.length_map]
          refine Nat.le_trans (List.length_filter_le _ _) ?_
          rw [List.length_range]
          omega
        refine ⟨T2, _, rfl, SqT.of eT2, rfl, _, _, rfl, _, _, rfl, rfl, rfl, ?_⟩
        refine r_brow X (blk1.same s46) ?_
        refine r_brow X blk2 ?_
        refine ⟨r1, r2, blockOf a i', blockOf b j', rfl, (blk1.same s46).row, blk2.row, ok1, ok2, by omega, by omega, fun H7 v7 s7 r7 => ⟨_, rfl, ?_⟩⟩
        have ec : decide (v7 = V.non) = conflict a b i' j' := by
          unfold conflict
          cases em : rowsMerged (blockOf a i') (blockOf b j') with
          | none =>
            rw [em] at r7
            cases (show v7 = .non from r7)
            rfl
          | some z =>
            rw [em] at r7
            obtain ⟨t, r, s, rfl, _⟩ := r7
            rfl
        have s47 := s46.trans s7
        have eD7 : H7 D = some (.lst (us.map V.ref)) := s7 _ _ (s56 _ _ eD)
        by_cases c : conflict a b i' j' = true
        · refine ifT (ec.trans c) ⟨_, rfl, _, rfl, (by show 2 ≤ sizeLine; decide), fun p8 n8 => ?_⟩
          refine alloc n8 fun H8 s8 e8 => ?_
          have eD8 := s8 _ _ eD7
          refine ⟨_, eD8, line_lt (by rw [List.length_map]; omega), us ++ [p8], same_off (s47.trans s8) hD Off.upd, by rw [upd_same, List.map_append]; rfl, ?_⟩
          rw [rfilter_more, if_pos c, List.map_append]
          exact (pairs_off (pairs_same hus ((s56.trans s7).trans s8)) eD8 Off.upd).app (.one (by
            rw [upd_ne (ne_of e8 eD8 (by intro z; cases z))]
            exact e8))
        · refine ifF (ec.trans (by simpa using c)) ⟨us, s47, eD7, ?_⟩
          rw [rfilter_more, if_neg c, List.append_nil]
          exact pairs_same hus (s56.trans s7)
      · rintro H5 ⟨us, s5, eD, hus⟩
        rw [List.length_map, lB] at hus
        have eq5 := s5 _ _ eq4
        have lu : us.length ≤ 100 := by
          rw [hus.len]
          exact fl i'
        refine ⟨q, D, _, _, rfl, rfl, eq5, eD, line_le (by rw [List.length_map, List.length_map]; omega), ?_⟩
        refine ⟨ts ++ us, _, _, rfl, fun c u n e => by rw [upd_ne n]; exact s5 _ _ (off4 c u n e), by rw [upd_same, List.map_append], ?_⟩
        rw [fm_more]
        exact (pairs_off (pairs_same hts (s34.trans s5)) eq5 Off.upd).app (pairs_off hus eq5 Off.upd)
    · rintro σ H3 ⟨ts, v4, v5, rfl, off, eq3, hts⟩
      rw [List.length_map, lA] at hts
      have s3 : Same H H3 := fun c u e => off _ _ (fun z => by rw [z, nq] at e; cases e) (s2 _ _ (s1 _ _ (s0 _ _ e)))
      exact ⟨_, rfl, k H3 _ s3 ⟨q, ts, rfl, eq3, hts⟩⟩
end
end Rw

/-! part RwLeft -/
set_option Elab.async false
set_option linter.all false
set_option maxRecDepth 100000
set_option maxHeartbeats 4000000
namespace Rw
open PySem PySem.Spec PyProof.Rows L2
open VapatBase (Tokens)
/-! Rows told, steps taken out of a row. -/
open Vapatb (aheadOf behind rowsCommuted)
open Vapatd (rowsMerged blockFrom blockOf conflict allConflicts)
theorem fs_len {s : St'} (ok : Okk s) : (VapatBase.flatStep s).length ≤ 21 := by
  cases s with
  | hunk f a o n =>
    obtain ⟨_, h1, h2⟩ := ok
    simp [VapatBase.flatStep, VapatBase.listed, VapatBase.ints]
    omega
  | _ => simp [VapatBase.flatStep]
theorem fss_len : ∀ {l : List St'}, (∀ s ∈ l, Okk s) → (l.flatMap VapatBase.flatStep).length ≤ 21 * l.length
  | [], _ => by simp
  | x :: l, h => by
    rw [List.flatMap_cons, List.length_append, List.length_cons]
    have := fs_len (h x List.mem_cons_self)
    have := fss_len (fun s hs => h s (List.mem_cons_of_mem _ hs))
    omega
theorem taken_at {row : List St'} {i : Nat} {p : St'} (e : row[i]? = some p) : RM.taken row i = match behind p (row.drop (i + 1)) with
  | .ok r => row.take i ++ r.1
  | .error _ => row.take i := by
  obtain ⟨h, hp⟩ := List.getElem?_eq_some_iff.mp e
  unfold RM.taken
  rw [← List.getElem_cons_drop h, hp]
  all_goals simp only
  all_goals (cases behind p (row.drop (i + 1)) <;> rfl)
theorem taken_ok {row : List St'} {i : Nat} (h : i < row.length) (ok : ∀ s ∈ row, Okk s) : (∀ s ∈ RM.taken row i, Okk s) ∧ i ≤ (RM.taken row i).length ∧ (RM.taken row i).length ≤ row.length := by
  have e : row[i]? = some row[i] := List.getElem?_eq_getElem h
  rw [taken_at e]
  cases c : behind row[i] (row.drop (i + 1)) with
  | error n =>
    refine ⟨fun s hs => ok s (List.mem_of_mem_take hs), ?_, ?_⟩ <;> (simp only [List.length_take]; omega)
  | ok r =>
    have bh := (RM.bh_iff _ _ r.1 r.2).mp c
    refine ⟨fun s hs => ?_, ?_, ?_⟩
    · rcases List.mem_append.mp hs with hs | hs
      · exact ok s (List.mem_of_mem_take hs)
      · exact bh_ok bh (ok _ (List.getElem_mem h)) (fun s hs => ok s (List.mem_of_mem_drop hs)) s hs
    · simp only [List.length_append, List.length_take]
      omega
    · simp only [List.length_append, List.length_take]
      rw [bh.len, List.length_drop]
      omega
theorem takenAll_ok : ∀ {l : List Nat} {row : List St'}, l.Pairwise (· > ·) → (∀ x ∈ l, x < row.length) → (∀ s ∈ row, Okk s) → (∀ s ∈ RM.takenAll row l, Okk s) ∧ (RM.takenAll row l).length ≤ row.length
  | [], row, _, _, ok => ⟨ok, Nat.le_refl _⟩
  | i :: l, row, p, h, ok => by
    rw [List.pairwise_cons] at p
    obtain ⟨a1, a2, a3⟩ := taken_ok (h i List.mem_cons_self) ok
    obtain ⟨b1, b2⟩ := takenAll_ok (row := RM.taken row i) p.2 (fun x hx => Nat.lt_of_lt_of_le (p.1 x hx) a2) a1
    exact ⟨b1, Nat.le_trans b2 a3⟩
section
variable {P : Program} {w : World} {K : PySem.W.Frag} {mg : Str → Option Value} {base : Heap}
def sp_row_numbers (X : Txt K mg) : Sp := fun vs H Q _ => ∃ (r : Addr) (ss : List St'), vs = [.ref r] ∧ RowAt K X.C_Step H r ss ∧ (∀ s ∈ ss, Okk s) ∧ ss.length ≤ 1000 ∧ Post H Q (LstN H ((VapatBase.flatSteps ss).map V.int))
theorem ok_row_numbers (X : Txt K mg) : FnOk P w K mg base CX0 2 X.d_row_numbers.f X.d_row_numbers.fd ["row"] (sp_row_numbers X) := by
  refine X.d_row_numbers.F.ok sc_row_numbers (fun vs H Q E h => ?_) (fun cdv A outer s0 H vs Q E hr h => ?_)
  · obtain ⟨r, ss, rfl, _⟩ := h
    rfl
  · obtain ⟨r, ss, rfl, ⟨as, hrow, hss⟩, oks, hl, k⟩ := h
    refine ⟨_, (pss_cons (ps_set (i := 1) sc_row_numbers.nd rfl (.inl rfl) (pe_lst (pa_cons (pe_callB call_len_seq (by rfl) X.b_len (by decide +kernel) (pa_cons (pv 0) pa_nil)) pa_nil)))
        (pss_cons (ps_for PassesOwn.never rfl (pi_list (pv 0)) (pg_name (i := 2) sc_row_numbers.nd rfl (.inl rfl)) (pss_one (ps_set (i := 1) sc_row_numbers.nd rfl (.inl rfl) (pe_op op_cat (pv 1) (pe_meth0 (pv 2) X.cl_Step X.m_Step_numbers.m (ok_Step_numbers X) (hr.mono (by decide)) X.m_Step_numbers.b .nil pass0)))))
        (pss_one (ps_ret (pv 1))))), ?_⟩
    refine ⟨_, rfl, _, _, rfl, .inl (SqL.of hrow), ?_⟩
    refine ⟨(by show 1 ≤ sizeLine; decide), fun p np => ?_⟩
    refine alloc np fun H0 s0 e0 => ?_
    refine ⟨_, rfl, r, rfl, ⟨_, SqL.of (s0 _ _ hrow)⟩, for_it walk_list (fun i σ H' => ∃ (f : Addr) (v : Option V), σ = [some (.ref r), some (.ref f), v] ∧ Same H H' ∧ H f = none ∧ H' f = some (.lst (V.int ((ss.length : Nat) : Int) :: ((ss.take i).flatMap VapatBase.flatStep).map V.int)))
      ⟨p, none, rfl, s0, np, by rw [e0, List.length_map, hss.len]; rfl⟩ (fun i σ H' _ ⟨_, _, _, s1, _⟩ => SqL.of (s1 _ _ hrow)) ?_ ?_⟩
    · rintro i x σ H1 H2 hi ⟨f, v, rfl, s1, nf, ef⟩ ⟨rfl, hx⟩
      obtain ⟨b, hb, rfl⟩ := ref_get hx
      obtain ⟨s, es, hs⟩ := hss.get hb
      obtain ⟨dx, o, w, hs⟩ := hs.same s1
      have oks' := oks s (List.mem_of_getElem? es)
      have hlt := (List.getElem?_eq_some_iff.mp es).1
      refine ⟨_, rfl, ?_⟩
      refine r_meth hs ?_
      refine ⟨b, s, rfl, ⟨dx, o, w, hs⟩, oks', fun H3 v3 s3 r3 => ?_⟩
      obtain ⟨q, rfl, eq⟩ := r3
      have l1 := fs_len oks'
      have l2 := fss_len (l := ss.take i) (fun s hs => oks s (List.mem_of_mem_take hs))
      rw [List.length_take] at l2
      refine ⟨_, _, _, _, rfl, rfl, s3 _ _ ef, eq, line_le (by simp only [List.length_cons, List.length_map]; omega), fun p4 n4 => ?_⟩
      refine alloc n4 fun H4 s4 e4 => ?_
      refine ⟨p4, _, rfl, (s1.trans s3).trans s4, (s1.trans s3).free n4, ?_⟩
      rw [e4, RM.take_more es]
      simp
    · rintro σ H1 ⟨f, v, rfl, s1, nf, ef⟩
      rw [List.length_map, hss.len, List.take_length] at ef
      exact ⟨_, rfl, k H1 _ s1 ⟨f, rfl, ef, nf⟩⟩
def sp_taken_out (X : Txt K mg) : Sp := fun vs H Q _ => ∃ (r : Addr) (ss : List St') (i : Nat), vs = [.ref r, vN i] ∧ RowAt K X.C_Step H r ss ∧ i < ss.length ∧ ss.length ≤ 100 ∧ (∀ s ∈ ss, Okk s) ∧ Post H Q (RowR K X.C_Step (RM.taken ss i))
theorem ok_taken_out (X : Txt K mg) : FnOk P w K mg base CX0 8 X.d_taken_out.f X.d_taken_out.fd ["row", "number"] (sp_taken_out X) := by
  refine X.d_taken_out.F.ok sc_taken_out (fun vs H Q E h => ?_) (fun cdv A outer s0 H vs Q E hr h => ?_)
  · obtain ⟨r, ss, i, rfl, _⟩ := h
    rfl
  · obtain ⟨r, ss, i, rfl, ⟨as, hrow, hss⟩, hi, hl, oks, k⟩ := h
    refine ⟨_, (pss_cons (ps_set (i := 2) sc_taken_out.nd rfl (.inl rfl) (pe_call (ok_brought_behind X) (hr.mono (by decide)) rfl X.d_brought_behind.g X.d_brought_behind.F.kp X.d_brought_behind.b .nil pass0 (pa_cons (pe_ix ix_list (pv 0) (pv 1) (fun _ _ => rfl)) (pa_cons (pe_slice sl_list (pv 0) (po_some (pe_op op_add (pv 1) pe_int)) po_none) pa_nil))))
        (pss_cons (ps_if (pt_cmp (pc_isN (pv 2)) rfl) (pss_one (ps_ret (pe_slice sl_list (pv 0) po_none (po_some (pv 1))))) pss_nil)
        (pss_one (ps_ret (pe_op op_cat (pe_slice sl_list (pv 0) po_none (po_some (pv 1))) (pe_ix ix_tup (pv 2) pe_int (fun _ _ => rfl))))))), ?_⟩
    have la : as.length = ss.length := hss.len
    have ai : as[i]? = some as[i] := List.getElem?_eq_getElem (by omega)
    obtain ⟨p, ep, hp⟩ := hss.get ai
    rw [taken_at ep] at k
    refine ⟨_, rfl, _, rfl, r, _, _, _, rfl, rfl, SqL.of hrow, atI_nat (by rw [List.getElem?_map, ai]; rfl), _, rfl, _, rfl, _, _, rfl, rfl, _, rfl, _, _, rfl, SqL.of hrow, fun q nq => ?_⟩
    have ec : cutV (as.map V.ref) (some (((i : Nat) : Int) + 1)) none = (as.drop (i + 1)).map V.ref := by
      rw [show ((i : Nat) : Int) + 1 = ((i + 1 : Nat) : Int) by omega, cut_from, List.map_drop]
    rw [ec]
    refine alloc nq fun H1 s1 e1 => ?_
    refine ⟨as[i], q, p, ss.drop (i + 1), rfl, hp.same s1, ⟨_, e1, (steps_same hss s1).drop (i + 1)⟩, oks p (List.mem_of_getElem? ep), fun s hs => oks s (List.mem_of_mem_drop hs), by rw [List.length_drop]; omega, fun H2 v2 s2 r2 => ?_⟩
    have s12 := s1.trans s2
    have et : cutV (as.map V.ref) none (some ((i : Nat) : Int)) = (as.take i).map V.ref := by rw [cut_to, List.map_take]
    cases c : behind p (ss.drop (i + 1)) with
    | error n =>
      rw [c] at r2 k
      cases (show v2 = .non from r2)
      refine ⟨_, rfl, _, rfl, ?_⟩
      refine ifT rfl ?_
      refine ⟨_, rfl, _, rfl, _, rfl, _, _, rfl, SqL.of (s12 _ _ hrow), fun q3 n3 => ?_⟩
      rw [et]
      refine alloc n3 fun H3 s3 e3 => ?_
      exact k H3 _ (s12.trans s3) ⟨q3, rfl, _, e3, (steps_same hss (s12.trans s3)).take i⟩
    | ok y =>
      rw [c] at r2 k
      obtain ⟨t, b, d, rfl, et2, nb, ⟨bs, eb, hbs⟩, hd⟩ := r2
      have bh := (RM.bh_iff _ _ y.1 y.2).mp c
      refine ⟨_, rfl, _, rfl, ?_⟩
      refine ifF rfl ?_
      refine ⟨_, rfl, _, rfl, _, rfl, _, _, rfl, SqL.of (s12 _ _ hrow), fun q3 n3 => ?_⟩
      rw [et]
      refine alloc n3 fun H3 s3 e3 => ?_
      refine ⟨_, rfl, _, _, _, _, rfl, rfl, SqT.of (s3 _ _ et2), rfl, ?_⟩
      refine ⟨_, _, _, _, rfl, rfl, e3, s3 _ _ eb, line_le (by
        simp only [List.length_map, List.length_take]
        rw [hbs.len, bh.len, List.length_drop]
        omega), fun q4 n4 => ?_⟩
      refine alloc n4 fun H4 s4 e4 => ?_
      have s34 := s3.trans s4
      exact k H4 _ (s12.trans s34) ⟨q4, rfl, as.take i ++ bs, by rw [e4, List.map_append], ((steps_same hss (s12.trans s34)).take i).app (steps_same hbs s34)⟩
def sp_what_is_left (X : Txt K mg) : Sp := fun vs H Q _ => ∃ (r n : Addr) (ss : List St') (ns : List Nat), vs = [.ref r, .ref n] ∧ RowAt K X.C_Step H r ss ∧ H n = some (.lst (tok ns)) ∧ ns.Pairwise (· < ·) ∧ (∀ x ∈ ns, x < ss.length) ∧ ss.length ≤ 100 ∧ (∀ s ∈ ss, Okk s) ∧ Post H Q (RowR K X.C_Step (RM.takenAll ss ns.reverse))
theorem ok_what_is_left (X : Txt K mg) : FnOk P w K mg base CX0 9 X.d_what_is_left.f X.d_what_is_left.fd ["row", "numbers"] (sp_what_is_left X) := by
  refine X.d_what_is_left.F.ok sc_what_is_left (fun vs H Q E h => ?_) (fun cdv A outer s0 H vs Q E hr h => ?_)
  · obtain ⟨r, n, ss, ns, rfl, _⟩ := h
    rfl
  · obtain ⟨r, n, ss, ns, rfl, hR, eN, pw, hb, hl, oks, k⟩ := h
    refine ⟨_, (pss_cons (ps_set (i := 2) sc_what_is_left.nd rfl (.inl rfl) (pv 0))
        (pss_cons (ps_for PassesOwn.never rfl (pi_reversed (by rfl) X.b_reversed (pa_cons (pv 1) pa_nil)) (pg_name (i := 3) sc_what_is_left.nd rfl (.inl rfl)) (pss_one (ps_set (i := 2) sc_what_is_left.nd rfl (.inl rfl) (pe_call (ok_taken_out X) (hr.mono (by decide)) rfl X.d_taken_out.g X.d_taken_out.F.kp X.d_taken_out.b .nil pass0 (pa_cons (pv 2) (pa_cons (pv 3) pa_nil))))))
        (pss_one (ps_ret (pv 2))))), ?_⟩
    have pw' : ns.reverse.Pairwise (· > ·) := by
      rw [List.pairwise_reverse]
      exact pw
    have hb' : ∀ x ∈ ns.reverse, x < ss.length := fun x hx => hb x (List.mem_reverse.mp hx)
    refine ⟨_, rfl, _, rfl, n, _, rfl, SqL.of eN, for_it walk_rev (fun t σ H' => ∃ (f : Addr) (cur : List St') (v : Option V), σ = [some (.ref r), some (.ref n), some (.ref f), v] ∧ Same H H' ∧ RowAt K X.C_Step H' f cur ∧ RM.takenAll ss ns.reverse = RM.takenAll cur (ns.reverse.drop t) ∧ (∀ x ∈ ns.reverse.drop t, x < cur.length) ∧ cur.length ≤ 100 ∧ (∀ s ∈ cur, Okk s))
      ⟨r, ss, none, rfl, Same.refl H, hR, rfl, hb', hl, oks⟩ (fun i σ H' _ ⟨_, _, _, _, s1, _⟩ => SqL.of (s1 _ _ eN)) ?_ ?_⟩
    · rintro t x σ H1 H2 ht ⟨f, cur, v, rfl, s1, hf, e1, hc, lc, okc⟩ ⟨rfl, hx⟩
      rw [tok_len] at ht hx
      obtain ⟨i, ei, rfl⟩ := tok_get hx
      have er : ns.reverse[t]? = some i := by
        rw [List.getElem?_reverse (by omega)]
        exact ei
      obtain ⟨hlt, hi⟩ := List.getElem?_eq_some_iff.mp er
      have hd : ns.reverse.drop t = i :: ns.reverse.drop (t + 1) := by rw [← List.getElem_cons_drop hlt, hi]
      have pd : (i :: ns.reverse.drop (t + 1)).Pairwise (· > ·) := by
        rw [← hd]
        exact pw'.drop
      rw [List.pairwise_cons] at pd
      have ic : i < cur.length := hc i (by rw [hd]; exact List.mem_cons_self)
      obtain ⟨o1, o2, o3⟩ := taken_ok ic okc
      refine ⟨_, rfl, _, rfl, f, cur, i, rfl, hf, ic, lc, okc, fun H3 v3 s3 r3 => ?_⟩
      obtain ⟨g, rfl, hg⟩ := r3
      refine ⟨g, RM.taken cur i, _, rfl, s1.trans s3, hg, ?_, fun x hx => Nat.lt_of_lt_of_le (pd.1 x hx) o2, by omega, o1⟩
      rw [e1, hd]
      rfl
    · rintro σ H1 ⟨f, cur, v, rfl, s1, hf, e1, hc, lc, okc⟩
      rw [tok_len, List.drop_of_length_le (by rw [List.length_reverse]; exact Nat.le_refl _)] at e1
      rw [e1] at k
      exact ⟨_, rfl, k H1 _ s1 ⟨f, rfl, hf⟩⟩
end
end Rw

/-! part RwFirst -/
set_option Elab.async false
set_option linter.all false
set_option maxRecDepth 100000
set_option maxHeartbeats 4000000
namespace Rw
open PySem PySem.Spec PyProof.Rows L2
open VapatBase (Tokens)
/-! The conflicts that others come from. -/
open Vapatb (aheadOf behind rowsCommuted)
open Vapatd (rowsMerged blockFrom blockOf conflict allConflicts)
theorem all_mem {a b : List St'} {x : Nat × Nat} (h : x ∈ allConflicts a b) : x.1 < a.length ∧ x.2 < b.length := by
  unfold allConflicts at h
  obtain ⟨i, hi, h⟩ := List.mem_flatMap.mp h
  obtain ⟨j, hj, rfl⟩ := List.mem_map.mp h
  exact ⟨List.mem_range.mp hi, List.mem_range.mp (List.mem_filter.mp hj).1⟩
theorem all_nodup (a b : List St') : (allConflicts a b).Nodup := by
  unfold allConflicts
  rw [List.nodup_iff_pairwise_ne, List.pairwise_flatMap]
  refine ⟨fun i _ => ?_, ?_⟩
  · rw [List.pairwise_map]
    refine List.Pairwise.imp (R := fun x y => x < y) ?_ (List.Pairwise.filter _ List.pairwise_lt_range)
    intro x y h e
    have := (Prod.mk.inj e).2
    omega
  · refine List.Pairwise.imp (R := fun x y => x < y) ?_ List.pairwise_lt_range
    intro x y h u hu v hv e
    obtain ⟨j, _, rfl⟩ := List.mem_map.mp hu
    obtain ⟨k, _, rfl⟩ := List.mem_map.mp hv
    have := (Prod.mk.inj e).1
    omega
theorem filter_one {α : Type} [DecidableEq α] {l : List α} {p : α → Bool} {x : α} (nd : l.Nodup) (hx : x ∈ l) (px : p x = true) : decide (l.filter p = [x]) = !l.any fun y => y != x && p y := by
  rw [Bool.eq_iff_iff, decide_eq_true_eq, Bool.not_eq_true', List.any_eq_false]
  constructor
  · intro h y hy c
    rw [Bool.and_eq_true, bne_iff_ne] at c
    have : y ∈ l.filter p := List.mem_filter.mpr ⟨hy, c.2⟩
    rw [h] at this
    exact c.1 (List.mem_singleton.mp this)
  · intro h
    have all : ∀ y ∈ l.filter p, y = x := fun y hy => by
      obtain ⟨h1, h2⟩ := List.mem_filter.mp hy
      refine Classical.byContradiction fun n => h y h1 ?_
      rw [Bool.and_eq_true, bne_iff_ne]
      exact ⟨n, h2⟩
    have nd2 : (l.filter p).Nodup := nd.filter _
    have mx : x ∈ l.filter p := List.mem_filter.mpr ⟨hx, px⟩
    generalize l.filter p = m at all nd2 mx
    match m, all, nd2, mx with
    | [y], all, _, _ => rw [all y List.mem_cons_self]
    | y :: z :: r, all, nd2, _ =>
      rw [List.nodup_cons] at nd2
      refine (nd2.1 ?_).elim
      rw [all y List.mem_cons_self, ← all z (by simp)]
      exact List.mem_cons_self
def Wit (a b : List St') (x y : Nat × Nat) : Bool := (ndsO a x.1 ++ [x.1]).contains y.1 && (ndsO b x.2 ++ [x.2]).contains y.2
theorem conf_eq (a b : List St') : Vapatd.conflicts a b = (allConflicts a b).filter fun x => decide ((allConflicts a b).filter (Wit a b x) = [x]) := by
  unfold Vapatd.conflicts
  refine List.filter_congr fun x hx => ?_
  rw [filter_one (all_nodup a b) hx (by simp [Wit])]
  obtain ⟨h1, h2⟩ := all_mem hx
  congr 2
  funext y
  congr 1
  · rw [Bool.eq_iff_iff]
    simp
  unfold Wit ndsO
  have e1 : (((List.range a.length).map fun i => i :: Vapatb.needs a i)[x.1]?).getD [] = x.1 :: Vapatb.needs a x.1 := by
    rw [List.getElem?_map, List.getElem?_range h1]
    rfl
  have e2 : (((List.range b.length).map fun i => i :: Vapatb.needs b i)[x.2]?).getD [] = x.2 :: Vapatb.needs b x.2 := by
    rw [List.getElem?_map, List.getElem?_range h2]
    rfl
  rw [e1, e2]
  have cc : ∀ (z n : Nat) (l : List Nat), (z :: l).contains n = (l ++ [z]).contains n := fun z n l => by
    rw [Bool.eq_iff_iff, List.contains_iff_mem, List.contains_iff_mem]
    simp [or_comm]
  rw [cc, cc]
theorem filtP_more {ns : List (Nat × Nat)} {i : Nat} {z : Nat × Nat} {p : Nat × Nat → Bool} (h : ns[i]? = some z) : (ns.take (i + 1)).filter p = (ns.take i).filter p ++ (if p z then [z] else []) := by
  rw [RM.take_more h, List.filter_append]
  congr 1
  rw [List.filter_cons]
  split <;> rfl
/-! ### lists of pairs compared -/
def pairD (x : Nat × Nat) : PyData := .tuple [.int (x.1 : Int), .int (x.2 : Int)]
theorem pairs_dp {K : PySem.W.Frag} {H : Hp} {ts : List Addr} {ps : List (Nat × Nat)} (h : PairsAt H ts ps) : DpAll K H (ts.map V.ref) (ps.map pairD) := by
  induction h with
  | nil => exact .nil
  | cons e _ ih => exact .cons (.tup (SqT.of e) (.cons (.int _) (.cons (.int _) .nil))) ih
theorem pairs_depth : ∀ (l : List (Nat × Nat)), PyData.depthAll (l.map pairD) ≤ 1
  | [] => Nat.zero_le _
  | z :: l => by
    show max (PyData.depth (pairD z)) (PyData.depthAll (l.map pairD)) ≤ 1
    have := pairs_depth l
    have e : PyData.depth (pairD z) = 1 := rfl
    omega
theorem pairs_lay : ∀ (l : List (Nat × Nat)), PyData.canLayAll0 (l.map pairD) = true
  | [] => rfl
  | z :: l => by
    show (PyData.canLay0 (pairD z) && PyData.canLayAll0 (l.map pairD)) = true
    rw [pairs_lay l]
    rfl
theorem pairD_eqv (x y : Nat × Nat) : PyData.eqv (pairD x) (pairD y) = decide (x = y) := by
  show ((((x.1 : Nat) : Int) == ((y.1 : Nat) : Int)) && ((((x.2 : Nat) : Int) == ((y.2 : Nat) : Int)) && true)) = _
  rw [Bool.eq_iff_iff]
  simp [Prod.ext_iff]
  omega
theorem pairs_eqv : ∀ (l m : List (Nat × Nat)), PyData.eqvAll (l.map pairD) (m.map pairD) = decide (l = m)
  | [], [] => rfl
  | [], _ :: _ => rfl
  | _ :: _, [] => rfl
  | z :: l, y :: m => by
    show (PyData.eqv (pairD z) (pairD y) && PyData.eqvAll (l.map pairD) (m.map pairD)) = _
    rw [pairs_eqv l m, pairD_eqv, Bool.eq_iff_iff]
    simp
theorem pairs_shaped (l : List (Nat × Nat)) : SeqAt.shaped (.list (l.map pairD)) = true := by
  show (PyData.canLayAll0 (l.map pairD) && decide (PyData.depthAll (l.map pairD) + 1 ≤ 64)) = true
  have := pairs_depth l
  rw [pairs_lay, decide_eq_true (by omega)]
  rfl
theorem eq_p {K : PySem.W.Frag} {H : Hp} {a b : Addr} {ts us : List Addr} {l m : List (Nat × Nat)} {Q : VK} (ea : H a = some (.lst (ts.map V.ref))) (eb : H b = some (.lst (us.map V.ref))) (ha : PairsAt H ts l) (hb : PairsAt H us m) (q : Q (.bl (decide (l = m))) H) : rEqD K (.ref a) (.ref b) H Q :=
  ⟨_, _, .lst (SqL.of ea) (pairs_dp ha), .lst (SqL.of eb) (pairs_dp hb), pairs_shaped l, pairs_shaped m, by
    show Q (.bl (PyData.eqvAll (l.map pairD) (m.map pairD))) H
    rw [pairs_eqv]
    exact q⟩
theorem al_len {a b : List St'} (la : a.length ≤ 100) (lb : b.length ≤ 100) : (allConflicts a b).length ≤ 10000 := by
  unfold allConflicts
  refine Nat.le_trans (fm_len (m := 100) (fun i => ?_) a.length) (Nat.mul_le_mul_right 100 la)
  rw [List.length_map]
  refine Nat.le_trans (List.length_filter_le _ _) ?_
  rw [List.length_range]
  exact lb
section
variable {P : Program} {w : World} {K : PySem.W.Frag} {mg : Str → Option Value} {base : Heap}
theorem r_among {L : Hp} {H : Hp} {Q : V → Prop} {b dx n r : Addr} {ns : List Nat} {ss : List St'} {C : Addr} (X : Txt K mg) (h : BlkIn K X.C_Block C H b ns ss dx n r) (q : Q (.ref n)) :
    ∃ b' C d fs v, V.ref b = .ref b' ∧ H b' = some (.ins C d fs) ∧ Cls K C ∧ NoAttr K C "among" ∧ fs.lookup ("among" : Str) = some v ∧ Q v := ⟨b, _, dx, _, _, rfl, h.ins, X.cl_Block, X.na_Block_among, fB_among, q⟩
def sp_first_conflicts (X : Txt K mg) : Sp := fun vs H Q _ => ∃ (r o : Addr) (a b : List St'), vs = [.ref r, .ref o] ∧ RowAt K X.C_Step H r a ∧ RowAt K X.C_Step H o b ∧ a.length ≤ 100 ∧ b.length ≤ 100 ∧ (∀ s ∈ a, Okk s) ∧ (∀ s ∈ b, Okk s) ∧ Post H Q (PairsR (Vapatd.conflicts a b))
theorem ok_first_conflicts (X : Txt K mg) : FnOk P w K mg base CX0 11 X.d_first_conflicts.f X.d_first_conflicts.fd ["row", "other"] (sp_first_conflicts X) := by
  refine X.d_first_conflicts.F.ok sc_first_conflicts (fun vs H Q E h => ?_) (fun cdv A outer s0 H vs Q E hr h => ?_)
  · obtain ⟨r, o, a, b, rfl, _⟩ := h
    rfl
  · obtain ⟨r, o, a, b, rfl, hA, hB, la, lb, oka, okb, k⟩ := h
    refine ⟨_, (pss_cons (ps_set (i := 2) sc_first_conflicts.nd rfl (.inl rfl) (pe_call (ok_conflicting X) (hr.mono (by decide)) rfl X.d_conflicting.g X.d_conflicting.F.kp X.d_conflicting.b .nil pass0 (pa_cons (pv 0) (pa_cons (pv 1) pa_nil))))
        (pss_cons (ps_set (i := 3) sc_first_conflicts.nd rfl (.inr rfl) (pe_call (ok_all_blocks X) (hr.mono (by decide)) rfl X.d_all_blocks.g X.d_all_blocks.F.kp X.d_all_blocks.b .nil pass0 (pa_cons (pv 0) pa_nil)))
        (pss_cons (ps_set (i := 4) sc_first_conflicts.nd rfl (.inr rfl) (pe_call (ok_all_blocks X) (hr.mono (by decide)) rfl X.d_all_blocks.g X.d_all_blocks.F.kp X.d_all_blocks.b .nil pass0 (pa_cons (pv 1) pa_nil)))
        (pss_cons (ps_set (i := 5) sc_first_conflicts.nd rfl (.inl rfl) (pe_lst pa_nil))
        (pss_cons (ps_for PassesOwn.never rfl (pi_list (pv 2)) (pg_tup rfl (pgs_cons (pg_name (i := 6) sc_first_conflicts.nd rfl (.inr rfl)) (pgs_cons (pg_name (i := 7) sc_first_conflicts.nd rfl (.inr rfl)) pgs_nil))) (pss_cons (ps_setLc (i := 8) (own := [("pair", 9)]) (tt := tAnd (tTest (tOp (rIn K false) (tOp (rIxT K) (tVar 9) (tC (.int 0))) (tFld K (tOp (rIxL K) (tVar 3) (tVar 6)) "among"))) (tTest (tOp (rIn K false) (tOp (rIxT K) (tVar 9) (tC (.int 1))) (tFld K (tOp (rIxL K) (tVar 4) (tVar 7)) "among")))) rfl sc_first_conflicts.nd rfl rfl (sw_true rfl rfl rfl (by decide +kernel)) (pi_list (pv 2)) (blkOk_by (own := [("pair", 9)]) (N := n_first_conflicts) (sc := defScope s_first_conflicts) (by decide +kernel)) (fun _ _ _ _ _ => (pg_name (i := 9) sc_first_conflicts.nd rfl (.inl rfl))) (fun _ _ _ _ _ => (pts_one (PW.pt (pw_and (pt_cmpR op_in_seq (pe_ix ix_tup (pv 9) pe_int (fun _ _ => rfl)) (pe_fld (pe_ix ix_list (pv 3) (pv 6) (fun _ _ => rfl)) rfl) (by rfl)) (pw_and1 (pt_cmpR op_in_seq (pe_ix ix_tup (pv 9) pe_int (fun _ _ => rfl)) (pe_fld (pe_ix ix_list (pv 4) (pv 7) (fun _ _ => rfl)) rfl) (by rfl))))))) (fun _ _ _ _ _ => (pv 9)))
        (pss_one (ps_if (pt_cmpR (op_eqD hr.units) (pv 8) (pe_lst (pa_cons (pe_tup (pa_cons (pv 6) (pa_cons (pv 7) pa_nil))) pa_nil)) (nomark _)) (pss_one (ps_expr (pe_bm PySem.F.plainAttrs_list PySem.F.slot_list_append PySem.F.type_list_append mt_append (pv 5) (pa_cons (pe_tup (pa_cons (pv 6) (pa_cons (pv 7) pa_nil))) pa_nil)))) pss_nil))))
        (pss_one (ps_ret (pv 5)))))))), ?_⟩
    have lall := al_len la lb
    rw [conf_eq] at k
    have mem := @all_mem a b
    refine ⟨_, rfl, _, rfl, r, o, a, b, rfl, hA, hB, la, lb, oka, okb, fun H1 v1 s1 r1 => ?_⟩
    obtain ⟨pP, ts, rfl, eP, hts⟩ := r1
    generalize allConflicts a b = al at k hts lall mem
    have lt : ts.length = al.length := hts.len
    refine ⟨_, rfl, r, a, rfl, hA.same s1, la, oka, fun H2 pA bsA s2 nA eA hAs => ?_⟩
    refine ⟨_, rfl, o, b, rfl, (hB.same s1).same s2, lb, okb, fun H3 pB bsB s3 nB eB hBs => ?_⟩
    have lA : bsA.length = a.length := by rw [hAs.len, List.length_range]
    have lB : bsB.length = b.length := by rw [hBs.len, List.length_range]
    have eP3 : H3 pP = some (.lst (ts.map V.ref)) := s3 _ _ (s2 _ _ eP)
    have eA3 := s3 _ _ eA
    have hts3 : PairsAt H3 ts al := pairs_same hts (s2.trans s3)
    have s13 := (s1.trans s2).trans s3
    refine ⟨Nat.zero_le _, fun q nq => ?_⟩
    refine ⟨_, rfl, pP, rfl, ⟨_, SqL.of ((same_upd nq) _ _ eP3)⟩, for_it walk_list (fun n σ H' => ∃ (us : List Addr) (v6 v7 v8 : Option V), σ = [some (.ref r), some (.ref o), some (.ref pP), some (.ref pA), some (.ref pB), some (.ref q), v6, v7, v8, none] ∧ Same H3 H' ∧ H' q = some (.lst (us.map V.ref)) ∧ PairsAt H' us ((al.take n).filter fun x => decide (al.filter (Wit a b x) = [x])))
      ⟨[], none, none, none, rfl, same_upd nq, upd_same, .nil⟩ (fun i σ H' _ ⟨_, _, _, _, _, s4, _, _⟩ => SqL.of (s4 _ _ eP3)) ?_ ?_⟩
    · rintro n x σ H4 H5 hn ⟨us, v6, v7, v8, rfl, s4, eq, hus⟩ ⟨rfl, hx⟩
      obtain ⟨T, hT, rfl⟩ := ref_get hx
      obtain ⟨x, ex, eT⟩ := hts3.get hT
      obtain ⟨m1, m2⟩ := mem (List.mem_of_getElem? ex)
      have lus : us.length ≤ 10000 := by
        rw [hus.len]
        refine Nat.le_trans (List.length_filter_le _ _) ?_
        rw [List.length_take]
        omega
      have aI : bsA[x.1]? = some bsA[x.1] := List.getElem?_eq_getElem (by omega)
      have bI : bsB[x.2]? = some bsB[x.2] := List.getElem?_eq_getElem (by omega)
      obtain ⟨i', hi', dx1, n1, r1, blk1, _, _⟩ := hAs.get aI
      obtain ⟨j', hj', dx2, n2, r2, blk2, _, _⟩ := hBs.get bI
      have : i' = x.1 := by
        rw [List.getElem?_range (by omega)] at hi'
        exact (Option.some.inj hi').symm
      subst this
      have : j' = x.2 := by
        rw [List.getElem?_range (by omega)] at hj'
        exact (Option.some.inj hj').symm
      subst this
      have blk1 := blk1.same s3
      refine ⟨T, _, rfl, SqT.of (s4 _ _ eT), rfl, _, _, rfl, _, _, rfl, rfl, ?_⟩
      refine ⟨_, rfl, pP, rfl, ⟨_, SqL.of (s4 _ _ eP3)⟩, fun D hD => ?_⟩
      refine lc_it walk_list (fun m H' => ∃ ws, Same H5 H' ∧ H' D = some (.lst (ws.map V.ref)) ∧ PairsAt H' ws ((al.take m).filter (Wit a b x))) ⟨[], same_upd hD, upd_same, .nil⟩ (fun m H' _ ⟨_, s5, _, _⟩ => SqL.of (s5 _ _ (s4 _ _ eP3))) ?_ ?_
      · rintro m y H6 H7 hm ⟨ws, s6, eD, hws⟩ ⟨rfl, hy⟩
        obtain ⟨T2, hT2, rfl⟩ := ref_get hy
        obtain ⟨y, ey, eT2⟩ := hts3.get hT2
        have s36 := s4.trans s6
        have lws : ws.length ≤ 10000 := by
          rw [hws.len]
          refine Nat.le_trans (List.length_filter_le _ _) ?_
          rw [List.length_take]
          omega
        have fm := filtP_more (p := Wit a b x) ey
        have no : Wit a b x y = false → PairsAt H7 ws ((al.take (m + 1)).filter (Wit a b x)) := fun e => by
          rw [fm, e]
          simpa using hws
        refine ⟨rfl, ?_⟩
        refine ⟨_, rfl, _, _, _, _, rfl, rfl, SqT.of (s36 _ _ eT2), rfl, ?_⟩
        refine ⟨_, rfl, _, rfl, _, _, _, _, rfl, rfl, SqL.of (s36 _ _ eA3), atI_nat (by rw [List.getElem?_map, aI]; rfl), ?_⟩
        refine r_among (L := H) X (blk1.same s36) ?_
        refine ⟨n1, _, rfl, .inl (SqL.of (blk1.same s36).among), rfl, tok_flat _, _, rfl, ?_⟩
        have e1 : inV (vN y.1) (tok (ndsO a x.1 ++ [x.1])) = (ndsO a x.1 ++ [x.1]).contains y.1 := inV_tok _ _
        have e2 : inV (vN y.2) (tok (ndsO b x.2 ++ [x.2])) = (ndsO b x.2 ++ [x.2]).contains y.2 := inV_tok _ _
        by_cases c1 : (ndsO a x.1 ++ [x.1]).contains y.1 = true
        · refine ifT (e1.trans c1) ?_
          refine ⟨_, rfl, _, _, _, _, rfl, rfl, SqT.of (s36 _ _ eT2), rfl, ?_⟩
          refine ⟨_, rfl, _, rfl, _, _, _, _, rfl, rfl, SqL.of (s36 _ _ eB), atI_nat (by rw [List.getElem?_map, bI]; rfl), ?_⟩
          refine r_among (L := H) X (blk2.same s36) ?_
          refine ⟨n2, _, rfl, .inl (SqL.of (blk2.same s36).among), rfl, tok_flat _, _, rfl, ?_⟩
          by_cases c2 : (ndsO b x.2 ++ [x.2]).contains y.2 = true
          · have w : Wit a b x y = true := by
              unfold Wit
              rw [c1, c2]
              rfl
            refine ifT (e2.trans c2) ⟨_, rfl, _, eD, line_lt (by rw [List.length_map]; omega), ws ++ [T2], same_off s6 hD Off.upd, by rw [upd_same, List.map_append]; rfl, ?_⟩
            rw [fm, w]
            exact (pairs_off hws eD Off.upd).app (.one (by
              rw [upd_ne (ne_of (s36 _ _ eT2) eD (by intro z; cases z))]
              exact s36 _ _ eT2))
          · have w : Wit a b x y = false := by
              unfold Wit
              rw [c1, show (ndsO b x.2 ++ [x.2]).contains y.2 = false by simpa using c2]
              rfl
            exact ifF (e2.trans (by simpa using c2)) ⟨ws, s6, eD, no w⟩
        · have w : Wit a b x y = false := by
            unfold Wit
            rw [show (ndsO a x.1 ++ [x.1]).contains y.1 = false by simpa using c1]
            rfl
          exact ifF (e1.trans (by simpa using c1)) ⟨ws, s6, eD, no w⟩
      · rintro H6 ⟨ws, s6, eD, hws⟩
        rw [List.length_map, lt, List.take_length] at hws
        have s36 := s4.trans s6
        refine ⟨_, rfl, _, rfl, _, rfl, (by show 2 ≤ sizeLine; decide), fun p1 np1 => ?_⟩
        refine alloc np1 fun H7 s7 e7 => ?_
        refine ⟨(by show 1 ≤ sizeLine; decide), fun p2 np2 => ?_⟩
        refine alloc np2 fun H8 s8 e8 => ?_
        have s68 := s7.trans s8
        have s38 := s36.trans s68
        have eq8 : H8 q = some (.lst (us.map V.ref)) := s68 _ _ (s6 _ _ eq)
        have hus8 : PairsAt H8 us _ := pairs_same hus (s6.trans s68)
        have fm := filtP_more (p := fun x => decide (al.filter (Wit a b x) = [x])) ex
        refine eq_p (us := [p1]) (m := [x]) (s68 _ _ eD) e8 (pairs_same hws s68) (.one (s8 _ _ e7)) ⟨_, rfl, ?_⟩
        by_cases c : al.filter (Wit a b x) = [x]
        · refine ifT (decide_eq_true c) ?_
          refine ⟨_, rfl, .inl ⟨rfl, _, SqL.of eq8⟩, _, rfl, _, rfl, (by show 2 ≤ sizeLine; decide), fun p9 n9 => ?_⟩
          refine alloc n9 fun H9 s9 e9 => ?_
          have eq9 := s9 _ _ eq8
          refine ⟨q, _, _, rfl, rfl, eq9, line_lt (by rw [List.length_map]; omega), ?_⟩
          refine ⟨us ++ [p9], _, _, _, rfl, same_off (s38.trans s9) nq Off.upd, by rw [upd_same, List.map_append]; rfl, ?_⟩
          rw [fm, if_pos (decide_eq_true c)]
          exact (pairs_off (pairs_same hus8 s9) eq9 Off.upd).app (.one (by
            rw [upd_ne (ne_of e9 eq9 (by intro z; cases z))]
            exact e9))
        · refine ifF (decide_eq_false c) ⟨us, _, _, _, rfl, s38, eq8, ?_⟩
          rw [fm, if_neg (by simpa using c), List.append_nil]
          exact hus8
    · rintro σ H4 ⟨us, v6, v7, v8, rfl, s4, eq, hus⟩
      rw [List.length_map, lt, List.take_length] at hus
      exact ⟨_, rfl, k H4 _ (s13.trans s4) ⟨q, us, rfl, eq, hus⟩⟩
end
end Rw

/-! part RwSet -/
set_option Elab.async false
set_option linter.all false
set_option maxRecDepth 100000
set_option maxHeartbeats 4000000
namespace Rw
open PySem PySem.Spec PyProof.Rows L2
open VapatBase (Tokens)
/-! set(a list of ints). The library walks the making of a set for a tuple of ints (HandS.SetFor) and has the turns of its filling for any walk; here is the call for a list. -/
abbrev nSet (w : World) : Obj := { cls := .type "set", dict := none, data := .set #[] 0 (.fresh 0 0 (!w.params.followText "set-order")) }
abbrev withSet (w : World) (s : Shared) : Shared := { s with heap := s.heap.push (nSet w) }
/-- the set stands at the heap's first free place, and what stood stands -/
def MadeSet (w : World) (s : Shared) (ns : List Int) (h' : Heap) (c : Nat) : Prop :=
  (∀ b o, s.heap.get? b = some o → h'.get? b = some o) ∧ c ≤ ns.length ∧ SetR w h' s.heap.objs.size (fun j => decide (j ∈ ns)) c
theorem item_int {items : Array Value} {ns : List Int} (r : IntsAre items.toList ns) (e : items.size = ns.length) (i : Nat) (v : Value) (hv : items[i]? = some v) : ∃ k t, ns[i]? = some k ∧ v = .int k t := by
  obtain ⟨t, ev⟩ := PyProof.Rows.IntsAre.int_at r i v ((Array.getElem?_toList ..).trans hv)
  have lt : i < ns.length := e ▸ (Array.getElem?_eq_some_iff.mp hv).1
  refine ⟨ns.getD i 0, t, ?_, ev⟩
  rw [List.getD_eq_getElem?_getD, List.getElem?_eq_getElem lt]
  rfl
theorem apart {h : Heap} {o : Obj} {l : Addr} (k : l < h.objs.size) : l ≠ (h.push o).objs.size ∧ h.objs.size ∉ [(h.push o).objs.size, l] := by
  have e : (h.push o).objs.size = h.objs.size + 1 := Heap.size_push ..
  rw [e]
  refine ⟨Nat.ne_of_lt (Nat.lt_succ_of_lt k), fun m => ?_⟩
  rcases List.mem_cons.mp m with z | z
  · exact Nat.ne_of_lt (Nat.lt_succ_self _) z
  · exact Nat.ne_of_gt k (List.mem_singleton.mp z)
section
variable {P : Program} {w : World} {A : Around} {E : Value → Shared → Prop} {s : Shared}
/-- the turns, from the new set and the list's new iterator on -/
theorem set_turns {l : Addr} {items : Array Value} {ns : List Int} {B : Around} {R : Result → Shared → Prop} (quiet : B.in1.handled = none) (old : l < s.heap.objs.size) (pl : (s.heap.push (nSet w)).IsList l items) (num : IntsAre items.toList ns) (few : ns.length + 1 < scanBound)
    (fin : ∀ (h' : Heap) (tk c : Nat), MadeSet w s ns h' c → R (.ok (.ret .none)) { s with heap := h', toks := tk }) (tk0 : Nat) :
    codeAny (model P w) B (.builtin "set.update.loop" ⟨[.ref s.heap.objs.size, .ref (s.heap.push (nSet w)).objs.size], []⟩) R { s with heap := (s.heap.push (nSet w)).push { cls := .type "list_iterator", data := .fields #[.ref l, .int 0 0] }, toks := tk0 } := by
  have sz : items.size = ns.length := (Array.length_toList ..).symm.trans (IntsAre.length num)
  obtain ⟨ap1, ap2⟩ := apart (o := nSet w) old
  have own : ((s.heap.push (nSet w)).push { cls := .type "list_iterator", data := .fields #[.ref l, .int 0 0] }).get? s.heap.objs.size = some (nSet w) := Heap.get?_push_of_some _ (Heap.get?_push_size _ rfl)
  have W := (Walks.list (prog := P) (w := w) quiet _ l ap1 items).toS
  refine set_update_ints W _ ap2 ns sz few (item_int num sz) (items.size - 0) 0 _ rfl (Nat.zero_le _) ⟨⟨_, Heap.get?_push_size _ rfl, rfl, rfl⟩, pl.push _⟩ ⟨0, Nat.le_refl 0, setR_new_at own⟩ ?_
  rintro ⟨h1, g1, d1, t1, o1⟩ c mv lc hs
  cases mv.gens
  cases mv.drawn
  cases mv.os
  refine fin h1 t1 c ⟨fun b o e => mv.heap b o (fun m => ?_) (Heap.get?_push_of_some _ (Heap.get?_push_of_some _ e)), sz ▸ lc, hs⟩
  have lt := Heap.lt_size e
  have z : (s.heap.push (nSet w)).objs.size = s.heap.objs.size + 1 := Heap.size_push ..
  rw [z] at m
  rcases List.mem_cons.mp m with m | m
  · exact Nat.ne_of_lt lt m
  · exact Nat.ne_of_lt (Nat.lt_succ_of_lt lt) (List.mem_singleton.mp m)
/-- the call itself: the class is called, an empty set made, then filled -/
theorem set_of_ints {l : Addr} {items : Array Value} (ns : List Int) {Q : Value → Shared → Prop} (quiet : A.handled = none) (pl : s.heap.IsList l items) (num : IntsAre items.toList ns) (few : ns.length + 1 < scanBound)
    (fin : ∀ (h' : Heap) (tk c : Nat), MadeSet w s ns h' c → Q (.ref s.heap.objs.size) { s with heap := h', toks := tk }) : wpAny (model P w) A (call (.type "set") [.ref l]) Q E s := by
  obtain ⟨_, _, fMro⟩ := F.called_set.mro
  have fMade := F.called_set.made; have fSub := F.called_set.sub; have fNot := F.called_set.notType; have fCan := F.called_set.canCreate; have fCall := F.typeCall_set_1 (.ref l)
  refine wpAny_call (codeAny_of_tree (show wpAny _ _ (callAny (.type "set") _) _ _ _ from wpAny_pure ⟨Code.quiet_builtin _ (by decide +kernel), codeAny_builtin F.entry_type_call ?_⟩))
  rw [Around.under_plain (weight_type_call_type "set" [.ref l] []) rfl]; repeat (any_goals (first | assumption | wp_step))
  refine codeAny_mono (code_set_led1 (.ref l) (E := E) (Q₁ := fun v t => v = .ref s.heap.objs.size ∧ t = withSet w s) ⟨rfl, rfl⟩) fun res t1 got => ?_
  match res, got with
  | .error _, got => exact got
  | .ok (.ret v), got =>
    obtain ⟨ev, et⟩ := got; subst ev; subst et
    have there : (withSet w s).heap.get? s.heap.objs.size = some (nSet w) := Heap.get?_push_size _ rfl
    have fInit := F.called_set.init.lookup; have fBind := F.called_set.init.bind (.ref s.heap.objs.size); repeat (any_goals (first | assumption | wp_step))
    refine codeAny_mono (codeAny_call_builtin (R := wants (fun v t => v = .none ∧ ∃ h' tk c, t = { s with heap := h', toks := tk } ∧ MadeSet w s ns h' c) E) F.called_set.init.plain F.entry_set_init (check_set_init_1 (⟨_, there, rfl⟩ : (withSet w s).TypeIs (.ref s.heap.objs.size) "set") ?_)) fun res2 t2 got2 => ?_
    · obtain ⟨⟨c0, d0, dat, sl⟩, at0, e1, n0, e2⟩ := pl
      simp only at e1 e2; subst e1 e2
      have old := Heap.lt_size at0
      have at1 : (s.heap.push (nSet w)).get? l = some ⟨.type "list", d0, .seq items n0, sl⟩ := Heap.get?_push_of_some _ at0
      have pl1 : (s.heap.push (nSet w)).IsList l items := ⟨_, at1, rfl, n0, rfl⟩
      have k1 := F.sub_list_set; have k2 := F.sub_list_frozenset; have k3 : (Value.type "list" == Value.type "dict") = false := rfl
      unfold Builtin.«set.__init__» noKeywords Builtin.Frozenset.updateFrom; generalize eIt : pyIter = It; wp_walk; subst eIt
      refine wpAny_pyIter_list pl1 (wpAny_bind (wpAny_runValue (set_turns (by simp [quiet]) old pl1 num few (fun h' tk c m => ?_) _)))
      exact wpAny_pure (wpAny_pure ⟨rfl, h', tk, c, rfl, m⟩)
    · match res2, got2 with
      | .error _, got2 => exact got2
      | .ok (.ret v), got2 =>
        obtain ⟨ev, h', tk, c, et, m⟩ := got2; subst ev; subst et
        repeat (any_goals (first | assumption | wp_step))
        exact fin h' tk c m
end
section
variable {X : Cx}
/-- set(xs) -/
def rSetI (K : PySem.W.Frag) (w : World) : List V → Hp → VK → Prop := fun xs H Q => ∃ (l : Addr) (ns : List Int), xs = [V.ref l] ∧ SqL K H l (ns.map V.int) ∧ ns.length ≤ 1000 ∧
  ∀ (a : Addr) (c : Nat), H a = none → (∃ es : List Int, es.Nodup ∧ (∀ k, k ∈ es ↔ k ∈ ns) ∧ es.length = c) → Q (.ref a) (upd H a (SetO w a (fun j => decide (j ∈ ns)) c))
theorem cr_setInts (hc : X.calm = true) : CallR X (.type "set") (rSetI X.K X.w) := by
  rintro pins s σ H xs us Q I r ⟨l, ns, rfl, hl, hb, q⟩
  rw [Vals.ref1 r]
  obtain ⟨its, rv, pl, _⟩ := I.list hl
  have free : H s.heap.objs.size = none := I.hok.fresh (Nat.le_refl _)
  refine set_of_ints (P := X.prog) (w := X.w) ns (I.ok.hd hc) pl.isList (by simpa using ints_of_vals rv) (by unfold scanBound; omega) fun h' tk c m => ?_
  obtain ⟨k, hcn, R⟩ := m
  refine ⟨.ref s.heap.objs.size, upd H s.heap.objs.size (SetO X.w s.heap.objs.size (fun j => decide (j ∈ ns)) c), I.laid (t' := tk) k (Nat.le_refl _) (setO_new R), rfl, q _ c free ?_⟩
  obtain ⟨o, es, ep, t, _, _, _, _, nd, hm, _, _, hsz, _⟩ := R
  refine ⟨es.toList.map keyOf, nd, fun j => ?_, by rw [List.length_map, Array.length_toList, hsz]⟩
  rw [← hm j, decide_eq_true_eq]
end
end Rw

/-! part RwHouseData -/
set_option Elab.async false
set_option linter.all false
set_option maxRecDepth 100000
set_option maxHeartbeats 4000000
namespace Rw
open PySem PySem.Spec PyProof.Rows L2
open VapatBase (Tokens)
/-! The house: its data, what its state is. -/
open VapatBase (applied appliedAll fileIn)
open Vapatd (State rowsMerged allConflicts)
open RM (stepOf hunkOf swapOf moveOf treeOf isNm)
/-! ### steps that are read are within bounds -/
theorem nm_lt {z : Int} (h : isNm z = true) : z.toNat < 10 := by
  have := RM.nm_iff.mp h
  simp only [VapatBase.int, VapatBase.NAMES] at this
  omega
theorem step_okk {ns : List Int} {s : St'} (h : stepOf ns = some s) : Okk s := by
  unfold stepOf at h
  split at h
  · cases h
  · split at h
    · unfold hunkOf at h
      split at h
      · cases h
      · split at h
        · rename_i c2
          split at h
          · split at h
            · cases h
            · rename_i old e1
              split at h
              · cases h
              · rename_i new e2
                split at h
                · cases h
                · split at h
                  · cases h
                  · cases h
                    exact ⟨nm_lt c2, (RM.counted_len e1).1, (RM.counted_len e2).1⟩
          · cases h
        · cases h
    · split at h
      · unfold swapOf at h
        split at h
        · cases h
        · split at h
          · rename_i c2
            split at h
            · split at h
              · cases h
              · cases h
                exact nm_lt c2
            · cases h
          · cases h
      · split at h
        · unfold moveOf at h
          split at h
          · cases h
          · split at h
            · rename_i c2
              split at h
              · rename_i c3
                split at h
                · cases h
                · cases h
                  exact ⟨nm_lt c2, nm_lt c3⟩
              · cases h
            · cases h
        · split at h
          · cases h
          · split at h
            · cases h
            · split at h
              · rename_i c2
                cases h
                split <;> exact nm_lt c2
              · cases h
/-! ### what stands beside the house -/
def Hard (H : Hp) (q : Addr) : Prop := ∃ C dx vb fs, H q = some (.ins C dx (("base", vb) :: fs))
section
variable {K : PySem.W.Frag} {H H' : Hp} {q : Addr}
theorem Hard.ne {b : Addr} {C dx : Addr} {x : Str} {v : V} {fs : List (Str × V)} (h : Hard H q) (e : H b = some (.ins C dx ((x, v) :: fs))) (n : (x == ("base" : Str)) = false) : b ≠ q := by
  rintro rfl
  obtain ⟨C', dx', vb, fs', e'⟩ := h
  rw [e] at e'
  have h2 := Option.some.inj e'
  injection h2 with _ _ h3
  have h4 := (Prod.mk.inj (List.cons.inj h3).1).1
  rw [h4, beq_self_eq_true] at n
  cases n
theorem Hard.neL {b : Addr} {xs : List V} (h : Hard H q) (e : H b = some (.lst xs)) : b ≠ q := by
  rintro rfl
  obtain ⟨_, _, _, _, e'⟩ := h
  rw [e] at e'
  cases e'
theorem Hard.neD {b : Addr} {xs : List (Key × V)} (h : Hard H q) (e : H b = some (.dK xs)) : b ≠ q := by
  rintro rfl
  obtain ⟨_, _, _, _, e'⟩ := h
  rw [e] at e'
  cases e'
theorem sqT_hard {a : Addr} {xs : List V} (n : Hard H q) (e : Off q H H') (h : SqT K H a xs) : SqT K H' a xs := by
  obtain ⟨C', dx', vb, fs', e'⟩ := n
  rcases h with (h | ⟨o, h⟩) | h
  · exact .inl (.inl (e _ _ (fun z => by subst z; rw [h] at e'; cases e') h))
  · exact .inl (.inr ⟨o, e _ _ (fun z => by subst z; rw [h] at e'; cases e') h⟩)
  · exact .inr h
theorem StepAt.hard {C : Addr} {a : Addr} {s : St'} (h : StepAt K C H a s) (n : Hard H q) (e : Off q H H') : StepAt K C H' a s := by
  obtain ⟨dx, o, w, h1, h2, h3⟩ := h
  exact ⟨dx, o, w, e _ _ (n.ne h1 (by decide +kernel)) h1, sqT_hard n e h2, sqT_hard n e h3⟩
theorem RowAt.hard {C : Addr} {a : Addr} {ss : List St'} (h : RowAt K C H a ss) (n : Hard H q) (e : Off q H H') : RowAt K C H' a ss := by
  obtain ⟨as, h1, h2⟩ := h
  exact ⟨as, e _ _ (n.neL h1) h1, Two.imp h2 fun _ _ s => s.hard n e⟩
theorem TreeAt.hard {C : Addr} {a : Addr} {t : Tr'} (h : TreeAt K C H a t) (n : Hard H q) (e : Off q H H') : TreeAt K C H' a t := by
  obtain ⟨dx, d, kvs, h1, h2, h3⟩ := h
  refine ⟨dx, d, kvs, e _ _ (n.ne h1 (by decide +kernel)) h1, e _ _ (n.neD h2) h2, h3.perm, fun g c ec => ?_⟩
  obtain ⟨r, r1, r2⟩ := h3.val g c ec
  exact ⟨r, r1, sqT_hard n e r2⟩
end
/-! ### the house -/
abbrev HSt := Vapatd.State
def fH (vb : V) (rr : Addr) : List (Str × V) := [("base", vb), ("rows", .ref rr)]
theorem fH_base {vb : V} {rr : Addr} : (fH vb rr).lookup ("base" : Str) = some vb := lk_here
theorem fH_rows {vb : V} {rr : Addr} : (fH vb rr).lookup ("rows" : Str) = some (.ref rr) := (lk_past (by decide +kernel)).trans lk_here
def noH (m : Str) : Bool := !(m == ("base" : Str)) && !(m == ("rows" : Str))
theorem fH_no {vb : V} {rr : Addr} {m : Str} (h : noH m = true) : (fH vb rr).lookup m = none := by
  simp only [noH, Bool.and_eq_true, Bool.not_eq_true'] at h
  exact (lk_past h.1).trans ((lk_past h.2).trans lk_nil)
def rowsV (s : HSt) : List (List St') := match s.tree with
  | none => [[], [], [], []]
  | some _ => s.rows
def BaseAt (K : PySem.W.Frag) (C : Addr) (H : Hp) (t : Option Tr') (v : V) : Prop := match t with
  | none => v = .non
  | some t => ∃ b, v = .ref b ∧ TreeAt K C H b t
section
variable {K : PySem.W.Frag} {mg : Str → Option Value}
structure HouseIn (X : Txt K mg) (H : Hp) (a : Addr) (s : HSt) (dx : Addr) (vb : V) (rr : Addr) (as : List Addr) : Prop where
  ins : H a = some (.ins X.C_House dx (fH vb rr))
  rows : H rr = some (.lst (as.map V.ref))
  base : BaseAt K X.C_Tree H s.tree vb
  each : Two (fun b r => RowAt K X.C_Step H b r) as (rowsV s)
def HouseAt (X : Txt K mg) (H : Hp) (a : Addr) (s : HSt) : Prop := ∃ dx vb rr as, HouseIn X H a s dx vb rr as
theorem BaseAt.same {C : Addr} {H H' : Hp} {t : Option Tr'} {v : V} (h : BaseAt K C H t v) (e : Same H H') : BaseAt K C H' t v := by
  cases t with
  | none => exact h
  | some t =>
    obtain ⟨b, rfl, hb⟩ := h
    exact ⟨b, rfl, hb.same e⟩
theorem BaseAt.hard {C q : Addr} {H H' : Hp} {t : Option Tr'} {v : V} (h : BaseAt K C H t v) (n : Hard H q) (e : Off q H H') : BaseAt K C H' t v := by
  cases t with
  | none => exact h
  | some t =>
    obtain ⟨b, rfl, hb⟩ := h
    exact ⟨b, rfl, hb.hard n e⟩
theorem HouseIn.same {X : Txt K mg} {H H' : Hp} {a dx rr : Addr} {vb : V} {s : HSt} {as : List Addr} (h : HouseIn X H a s dx vb rr as) (e : Same H H') : HouseIn X H' a s dx vb rr as :=
  ⟨e _ _ h.ins, e _ _ h.rows, h.base.same e, Two.imp h.each fun _ _ z => z.same e⟩
theorem HouseIn.hard {X : Txt K mg} {H : Hp} {a dx rr : Addr} {vb : V} {s : HSt} {as : List Addr} (h : HouseIn X H a s dx vb rr as) : Hard H a := ⟨_, _, _, _, h.ins⟩
theorem HouseAt.same {X : Txt K mg} {H H' : Hp} {a : Addr} {s : HSt} (h : HouseAt X H a s) (e : Same H H') : HouseAt X H' a s := by
  obtain ⟨dx, vb, rr, as, h⟩ := h
  exact ⟨dx, vb, rr, as, h.same e⟩
theorem HouseIn.tree {X : Txt K mg} {H : Hp} {a dx rr : Addr} {vb : V} {s : HSt} {as : List Addr} {t : Tr'} (h : HouseIn X H a s dx vb rr as) (e : s.tree = some t) : ∃ b, vb = .ref b ∧ TreeAt K X.C_Tree H b t := by
  have := h.base
  rw [e] at this
  exact this
theorem rowsV_some {s : HSt} {t : Tr'} (e : s.tree = some t) : rowsV s = s.rows := by
  unfold rowsV
  rw [e]
theorem HouseIn.row {X : Txt K mg} {H : Hp} {a dx rr : Addr} {vb : V} {s : HSt} {as : List Addr} {t : Tr'} {k : Nat} {row : List St'} (h : HouseIn X H a s dx vb rr as) (e : s.tree = some t) (er : s.rows[k]? = some row) : ∃ b, as[k]? = some b ∧ RowAt K X.C_Step H b row := by
  have hh := h.each
  rw [rowsV_some e] at hh
  exact hh.get' er
end
/-- q is none of the house's lists -/
def Sep (H : Hp) (a q : Addr) : Prop := ∀ (C dx : Addr) (vb : V) (rr : Addr) (as : List Addr), H a = some (.ins C dx (fH vb rr)) → H rr = some (.lst (as.map V.ref)) → rr ≠ q ∧ ∀ b ∈ as, b ≠ q
/-- all but the house stands, and what was none of its lists is none of them -/
def OffS (a : Addr) (H H' : Hp) : Prop := Off a H H' ∧ ∀ q o, H q = some o → Sep H a q → Sep H' a q
theorem refs_inj : ∀ {l m : List Addr}, l.map V.ref = m.map V.ref → l = m
  | [], [], _ => rfl
  | [], _ :: _, h => by cases h
  | _ :: _, [], h => by cases h
  | x :: l, y :: m, h => by
    rw [List.map_cons, List.map_cons] at h
    obtain ⟨h1, h2⟩ := List.cons.inj h
    rw [V.ref.inj h1, refs_inj h2]
theorem fH_inj {C C' dx dx' : Addr} {vb vb' : V} {rr rr' : Addr} (h : HO.ins C dx (fH vb rr) = HO.ins C' dx' (fH vb' rr')) : rr = rr' := by
  injection h with _ _ h3
  have h4 := (List.cons.inj (List.cons.inj h3).2).1
  exact V.ref.inj (Prod.mk.inj h4).2
theorem lst_inj {xs ys : List V} (h : (some (HO.lst xs) : Option HO) = some (.lst ys)) : xs = ys := by
  have := Option.some.inj h
  injection this
section
variable {K : PySem.W.Frag} {mg : Str → Option Value} {X : Txt K mg}
theorem sep_of {H : Hp} {a q C dx rr : Addr} {vb : V} {as : List Addr} (e : H a = some (.ins C dx (fH vb rr))) (r : H rr = some (.lst (as.map V.ref))) (h : rr ≠ q ∧ ∀ b ∈ as, b ≠ q) : Sep H a q := by
  intro C' dx' vb' rr' as' e' r'
  have h1 := fH_inj (Option.some.inj (e'.symm.trans e))
  subst h1
  have h2 := refs_inj (lst_inj (r'.symm.trans r))
  subst h2
  exact h
theorem HouseIn.sep_same {H H' : Hp} {a dx rr q : Addr} {vb : V} {s : HSt} {as : List Addr} (h : HouseIn X H a s dx vb rr as) (e : Same H H') (z : Sep H a q) : Sep H' a q := sep_of (e _ _ h.ins) (e _ _ h.rows) (z _ _ _ _ _ h.ins h.rows)
theorem HouseIn.offS {H H' : Hp} {a dx rr : Addr} {vb : V} {s : HSt} {as : List Addr} (h : HouseIn X H a s dx vb rr as) (e : Same H H') : OffS a H H' := ⟨Same.off a e, fun _ _ _ z => h.sep_same e z⟩
theorem HouseAt.offS {H H' : Hp} {a : Addr} {s : HSt} (h : HouseAt X H a s) (e : Same H H') : OffS a H H' := by
  obtain ⟨_, _, _, _, h⟩ := h
  exact h.offS e
theorem offS_put {H H1 H2 H3 : Hp} {a dx rr r : Addr} {vb : V} {s s' : HSt} {as : List Addr} (h : HouseIn X H a s dx vb rr as) (S : Same H H1) (fr : H r = none) (o : Off a H1 H2) (kp : ∀ q u, H1 q = some u → Sep H1 a q → r ≠ q → Sep H2 a q) (h2 : HouseAt X H2 a s') (S2 : Same H2 H3) : OffS a H H3 := by
  obtain ⟨_, _, _, _, h2⟩ := h2
  refine ⟨(Same.off a S).trans (o.trans (Same.off a S2)), fun q u e z => h2.sep_same S2 (kp q u (S _ _ e) (h.sep_same S z) fun er => ?_)⟩
  rw [er, e] at fr
  cases fr
end
/-- what holds of every state -/
structure Good (s : HSt) : Prop where
  tk : ∀ t, s.tree = some t → TOk 12 t
  len : ∀ t, s.tree = some t → s.rows.length = 4
  row : ∀ t, s.tree = some t → ∀ r ∈ s.rows, r.length ≤ 24 ∧ (∀ x ∈ r, Okk x) ∧ ∃ u, appliedAll t r = some u
theorem good_start : Good Vapatd.start := ⟨fun _ e => (nomatch e), fun _ e => (nomatch e), fun _ e => (nomatch e)⟩
theorem Good.set {s : HSt} {k : Nat} {r : List St'} (g : Good s) (h : ∀ t, s.tree = some t → r.length ≤ 24 ∧ (∀ x ∈ r, Okk x) ∧ ∃ u, appliedAll t r = some u) : Good { s with rows := s.rows.set k r } :=
  ⟨g.tk, fun t e => by rw [List.length_set]; exact g.len t e, fun t e z hz => by
    rcases List.mem_or_eq_of_mem_set hz with hz | rfl
    · exact g.row t e z hz
    · exact h t e⟩
theorem good_tree {ns : List Int} {t : Tr'} (e : treeOf ns = some t) : Good ⟨some t, List.replicate Vapatd.ROWS []⟩ := by
  obtain ⟨h1, h2, h3⟩ := RM.fresh_of e
  refine ⟨fun _ e => by cases e; exact ⟨h1, h2, h3⟩, fun _ _ => rfl, fun _ _ r hr => ?_⟩
  rw [(List.mem_replicate.mp hr).2]
  exact ⟨Nat.zero_le _, fun _ h => (nomatch h), _, rfl⟩
/-! ### the faults -/
def flt (s : HSt) (r : Int) : List Int := match s.tree with
  | none => [-8]
  | some _ => if 0 ≤ r ∧ r < 4 then [] else [-2]
def pflt (s : HSt) (r q : Int) : List Int := if (flt s r ++ flt s q).length = 0 ∧ r = q then [-3] else (flt s r ++ flt s q).take 1
theorem flt_len (s : HSt) (r : Int) : (flt s r).length ≤ 1 := by
  unfold flt
  split
  · exact Nat.le_refl _
  · split
    · exact Nat.zero_le _
    · exact Nat.le_refl _
theorem row_of {s : HSt} {t : Tr'} (g : Good s) (e : s.tree = some t) {r : Int} (h : 0 ≤ r ∧ r < 4) : ∃ row, s.rows[r.toNat]? = some row ∧ Vapatd.rowOf s r = some (r.toNat, row) := by
  have l := g.len t e
  have hl : r.toNat < s.rows.length := by omega
  refine ⟨s.rows[r.toNat], List.getElem?_eq_getElem hl, ?_⟩
  unfold Vapatd.rowOf
  rw [if_pos (by show 0 ≤ r ∧ r < 4; exact h), List.getElem?_eq_getElem hl]
  rfl
theorem row_no {s : HSt} {r : Int} (h : ¬ (0 ≤ r ∧ r < 4)) : Vapatd.rowOf s r = none := if_neg h
theorem row_cases {s : HSt} (g : Good s) (r : Int) : (∃ e, flt s r = [e] ∧ ∀ f, Vapatd.onRow s r f = (s, [e])) ∨
    (flt s r = [] ∧ ∃ (t : Tr') (k : Nat) (row : List St'), s.tree = some t ∧ r = (k : Int) ∧ k < 4 ∧ s.rows[k]? = some row ∧ ∀ f, Vapatd.onRow s r f = f t k row) := by
  unfold flt Vapatd.onRow Vapatd.onTree
  cases e : s.tree with
  | none => exact .inl ⟨_, rfl, fun _ => rfl⟩
  | some t =>
    by_cases h : 0 ≤ r ∧ r < 4
    · obtain ⟨row, e1, e2⟩ := row_of g e h
      refine .inr ⟨if_pos h, t, r.toNat, row, rfl, by omega, by omega, e1, fun f => ?_⟩
      simp only
      rw [e2]
    · refine .inl ⟨-2, if_neg h, fun f => ?_⟩
      simp only
      rw [row_no h]
theorem rows_cases {s : HSt} (g : Good s) (r q : Int) : (∃ e, pflt s r q = [e] ∧ ∀ f, Vapatd.onRows s r q f = (s, [e])) ∨
    (pflt s r q = [] ∧ ∃ (t : Tr') (k j : Nat) (a b : List St'), s.tree = some t ∧ r = (k : Int) ∧ q = (j : Int) ∧ k < 4 ∧ j < 4 ∧ k ≠ j ∧ s.rows[k]? = some a ∧ s.rows[j]? = some b ∧ ∀ f, Vapatd.onRows s r q f = f t k a b) := by
  unfold pflt Vapatd.onRows
  rcases row_cases g r with ⟨e, e1, e2⟩ | ⟨e1, t, k, a, et, rfl, hk, ek, e2⟩
  · refine .inl ⟨e, ?_, fun f => e2 _⟩
    rw [e1, if_neg (by simp)]
    rfl
  · rw [e1, List.nil_append]
    rcases row_cases g q with ⟨e, f1, f2⟩ | ⟨f1, t', j, b, et', rfl, hj, ej, f2⟩
    · refine .inl ⟨e, ?_, fun f => ?_⟩
      · rw [f1, if_neg (by simp)]
        rfl
      · rw [e2]
        have := f2 fun _ k b => (s, [])
        have hn : Vapatd.rowOf s q = none ∧ e = -2 := by
          unfold Vapatd.onRow Vapatd.onTree at this
          rw [et] at this
          simp only at this
          cases c : Vapatd.rowOf s q with
          | none =>
            rw [c] at this
            simp only [Prod.mk.injEq, List.cons.injEq, and_true, true_and] at this
            exact ⟨rfl, this.symm⟩
          | some y =>
            rw [c] at this
            simp at this
        rw [hn.1, hn.2]
    · obtain ⟨row, e3, e4⟩ := row_of g et (r := (j : Int)) (by omega)
      have ej' : (j : Int).toNat = j := rfl
      rw [ej', ej] at e3
      cases e3
      rw [f1]
      by_cases c : k = j
      · subst c
        refine .inl ⟨-3, by rw [if_pos ⟨rfl, rfl⟩], fun f => ?_⟩
        rw [e2, e4]
        simp
      · refine .inr ⟨by rw [if_neg (by omega)]; rfl, t, k, j, a, b, et, rfl, rfl, hk, hj, c, ek, ej, fun f => ?_⟩
        rw [e2, e4]
        simp only
        rw [if_neg (by simpa using c)]
/-- what stands, the house but as told, and the answer so -/
abbrev PostH {K : PySem.W.Frag} {mg : Str → Option Value} (X : Txt K mg) (H : Hp) (a : Addr) (Q : VK) (y : HSt × List Int) : Prop := ∀ (H' : Hp) (v : V), OffS a H H' → HouseAt X H' a y.1 → LstN H (y.2.map V.int) H' v → Q v H'
section
variable {P : Program} {w : World} {K : PySem.W.Frag} {mg : Str → Option Value} {base : Heap}
variable {σ : L2.St} {H : Hp} {Q : V → Prop} {a dx rr : Addr} {vb : V} {s : HSt} {as : List Addr} {i : Nat}
theorem r_hbase (X : Txt K mg) (h : HouseIn X H a s dx vb rr as) (q : Q vb) (e : σ[i]? = some (some (.ref a)) := by rfl) :
    ∃ u, σ[i]? = some (some u) ∧ ∃ b C d fs v, u = .ref b ∧ H b = some (.ins C d fs) ∧ Cls K C ∧ NoAttr K C "base" ∧ fs.lookup ("base" : Str) = some v ∧ Q v := ⟨_, e, a, _, dx, _, _, rfl, h.ins, X.cl_House, X.na_House_base, fH_base, q⟩
theorem r_hrows (X : Txt K mg) (h : HouseIn X H a s dx vb rr as) (q : Q (.ref rr)) (e : σ[i]? = some (some (.ref a)) := by rfl) :
    ∃ u, σ[i]? = some (some u) ∧ ∃ b C d fs v, u = .ref b ∧ H b = some (.ins C d fs) ∧ Cls K C ∧ NoAttr K C "rows" ∧ fs.lookup ("rows" : Str) = some v ∧ Q v := ⟨_, e, a, _, dx, _, _, rfl, h.ins, X.cl_House, X.na_House_rows, fH_rows, q⟩
theorem r_hmeth {m : Str} {R : V → Prop} (X : Txt K mg) (h : HouseIn X H a s dx vb rr as) (q : R (.ref a)) (e : σ[i]? = some (some (.ref a)) := by rfl) (n : noH m = true := by decide +kernel) :
    ∃ u, σ[i]? = some (some u) ∧ ∃ b d fs, u = .ref b ∧ H b = some (.ins X.C_House d fs) ∧ fs.lookup m = none ∧ R u := ⟨_, e, a, dx, _, rfl, h.ins, fH_no n, q⟩
end
end Rw

/-! part RwHouse -/
set_option Elab.async false
set_option linter.all false
set_option maxRecDepth 100000
set_option maxHeartbeats 4000000
namespace Rw
open PySem PySem.Spec PyProof.Rows L2
open VapatBase (Tokens)
/-! The house: its methods. -/
open VapatBase (applied appliedAll fileIn)
open Vapatd (State rowsMerged allConflicts)
open RM (stepOf treeOf)
section
variable {P : Program} {w : World} {K : PySem.W.Frag} {mg : Str → Option Value} {base : Heap}
theorem four_rows {K : PySem.W.Frag} {C : Addr} {H : Hp} {p1 p2 p3 p4 : Addr} (e1 : H p1 = some (.lst [])) (e2 : H p2 = some (.lst [])) (e3 : H p3 = some (.lst [])) (e4 : H p4 = some (.lst [])) : Two (fun b r => RowAt K C H b r) [p1, p2, p3, p4] [[], [], [], []] :=
  .cons ⟨[], e1, .nil⟩ (.cons ⟨[], e2, .nil⟩ (.cons ⟨[], e3, .nil⟩ (.cons ⟨[], e4, .nil⟩ .nil)))
def sp_House_init (X : Txt K mg) : Sp := fun vs H Q _ => ∃ (p dx : Addr), vs = [.ref p] ∧ H p = some (.ins X.C_House dx []) ∧ ∀ H' : Hp, Off p H H' → HouseAt X H' p Vapatd.start → Q .non H'
theorem ok_House_init (X : Txt K mg) : FnOk P w K mg base CX0 1 X.m_House_init.f X.m_House_init.fd ["self"] (sp_House_init X) := by
  refine X.m_House_init.F.ok sc_House_init (fun vs H Q E h => ?_) (fun cdv A outer s0 H vs Q E hr h => ?_)
  · obtain ⟨p, dx, rfl, _⟩ := h
    rfl
  · obtain ⟨p, dx, rfl, hp, q⟩ := h
    refine ⟨_, (pss_cons (ps_fld (pv 0) pe_non rfl)
        (pss_one (ps_fld (pv 0) (pe_lst (pa_cons (pe_lst pa_nil) (pa_cons (pe_lst pa_nil) (pa_cons (pe_lst pa_nil) (pa_cons (pe_lst pa_nil) pa_nil))))) rfl))), ?_⟩
    refine ⟨_, rfl, p, _, dx, _, rfl, hp, X.cl_House, X.na_House_base, (by show 0 < 1000; decide), ?_⟩
    have o1 : Off p H (upd H p (.ins X.C_House dx [("base", .non)])) := Off.upd
    have e1 : (upd H p (.ins X.C_House dx [("base", .non)])) p = some (.ins X.C_House dx [("base", .non)]) := upd_same
    have he : putF "base" V.non [] = [(("base" : Str), V.non)] := rfl
    rw [he]
    generalize upd H p (.ins X.C_House dx [("base", .non)]) = H1 at o1 e1
    refine ⟨Nat.zero_le _, fun p1 n1 => ?_⟩
    refine alloc n1 fun H2 s2 f1 => ?_
    refine ⟨Nat.zero_le _, fun p2 n2 => ?_⟩
    refine alloc n2 fun H3 s3 f2 => ?_
    refine ⟨Nat.zero_le _, fun p3 n3 => ?_⟩
    refine alloc n3 fun H4 s4 f3 => ?_
    refine ⟨Nat.zero_le _, fun p4 n4 => ?_⟩
    refine alloc n4 fun H5 s5 f4 => ?_
    refine ⟨(by show 4 ≤ sizeLine; decide), fun p5 n5 => ?_⟩
    refine alloc n5 fun H6 s6 f5 => ?_
    have s16 := (((s2.trans s3).trans s4).trans s5).trans s6
    have e6 := s16 _ _ e1
    refine ⟨_, rfl, p, _, dx, _, rfl, e6, X.cl_House, X.na_House_rows, (by show 1 < 1000; decide), ?_⟩
    have he2 : putF "rows" (V.ref p5) [(("base" : Str), V.non)] = fH .non p5 := put_past (by decide +kernel)
    rw [he2]
    have hd : Hard H6 p := ⟨_, _, _, _, e6⟩
    have of : Off p H6 (upd H6 p (.ins X.C_House dx (fH .non p5))) := Off.upd
    refine q _ ((o1.trans (Same.off p s16)).trans of) ⟨dx, .non, p5, [p1, p2, p3, p4], upd_same, of _ _ (hd.neL f5) f5, rfl, ?_⟩
    have g1 := s6 _ _ (s5 _ _ (s4 _ _ (s3 _ _ f1)))
    have g2 := s6 _ _ (s5 _ _ (s4 _ _ f2))
    have g3 := s6 _ _ (s5 _ _ f3)
    have g4 := s6 _ _ f4
    exact four_rows (of _ _ (hd.neL g1) g1) (of _ _ (hd.neL g2) g2) (of _ _ (hd.neL g3) g3) (of _ _ (hd.neL g4) g4)
def sp_House_set_tree (X : Txt K mg) : Sp := fun vs H Q _ => ∃ (a n : Addr) (s : HSt) (ns : List Int), vs = [.ref a, .ref n] ∧ HouseAt X H a s ∧ SqL K H n (ns.map V.int) ∧ ns.length ≤ 1000 ∧ PostH X H a Q (Vapatd.step s (.tree ns))
theorem ok_House_set_tree (X : Txt K mg) : FnOk P w K mg base CX0 5 X.m_House_set_tree.f X.m_House_set_tree.fd ["self", "numbers"] (sp_House_set_tree X) := by
  refine X.m_House_set_tree.F.ok sc_House_set_tree (fun vs H Q E h => ?_) (fun cdv A outer s0 H vs Q E hr h => ?_)
  · obtain ⟨a, n, s, ns, rfl, _⟩ := h
    rfl
  · obtain ⟨a, n, s, ns, rfl, ⟨dx, vb, rr, as, hh⟩, hN, ln, k⟩ := h
    refine ⟨_, (pss_cons (ps_set (i := 2) sc_House_set_tree.nd rfl (.inl rfl) (pe_call (ok_read_tree X) (hr.mono (by decide)) rfl X.d_read_tree.g X.d_read_tree.F.kp X.d_read_tree.b .nil pass0 (pa_cons (pv 1) pa_nil)))
        (pss_cons (ps_if (pt_cmp (pc_isN (pv 2)) rfl) (pss_one (ps_ret (pe_lst (pa_cons (pe_glob (v := .int (-1)) rfl X.c_NO_FORM.h ⟨_, rfl⟩) pa_nil)))) pss_nil)
        (pss_cons (ps_fld (pv 0) (pv 2) rfl)
        (pss_cons (ps_fld (pv 0) (pe_lst (pa_cons (pe_lst pa_nil) (pa_cons (pe_lst pa_nil) (pa_cons (pe_lst pa_nil) (pa_cons (pe_lst pa_nil) pa_nil))))) rfl)
        (pss_one (ps_ret (pe_lst (pa_cons (pe_callB call_lenD (by rfl) X.b_len (by decide +kernel) (pa_cons (pe_fld (pv 2) rfl) pa_nil)) pa_nil)))))))), ?_⟩
    have es : Vapatd.step s (.tree ns) = match treeOf ns with
      | none => (s, [-1])
      | some t => (⟨some t, List.replicate Vapatd.ROWS []⟩, [Vapatd.int t.length]) := by
      rw [← RM.tree_is]
      rfl
    rw [es] at k
    refine ⟨_, rfl, n, ns, rfl, hN, ln, fun H1 v1 s1 r1 => ?_⟩
    cases et : treeOf ns with
    | none =>
      rw [et] at r1 k
      cases (show v1 = .non from r1)
      refine ⟨_, rfl, _, rfl, ?_⟩
      refine ifT rfl ?_
      refine ⟨(by show 1 ≤ sizeLine; decide), fun p np => ?_⟩
      exact k _ _ (hh.offS (s1.trans (same_upd np))) ⟨dx, vb, rr, as, hh.same (s1.trans (same_upd np))⟩ ⟨p, rfl, upd_same, Same.free s1 np⟩
    | some t =>
      rw [et] at r1 k
      obtain ⟨b, rfl, hb⟩ := r1
      have h1 := hh.same s1
      refine ⟨_, rfl, _, rfl, ?_⟩
      refine ifF rfl ?_
      refine ⟨_, rfl, _, rfl, a, _, dx, _, rfl, h1.ins, X.cl_House, X.na_House_base, (by show 2 < 1000; decide), ?_⟩
      have he : putF "base" (V.ref b) (fH vb rr) = fH (.ref b) rr := put_here
      rw [he]
      have o2 : Off a H1 (upd H1 a (.ins X.C_House dx (fH (.ref b) rr))) := Off.upd
      have e2 : (upd H1 a (.ins X.C_House dx (fH (.ref b) rr))) a = some (.ins X.C_House dx (fH (.ref b) rr)) := upd_same
      have hb2 := hb.hard h1.hard o2
      generalize upd H1 a (.ins X.C_House dx (fH (.ref b) rr)) = H2 at o2 e2 hb2
      refine ⟨Nat.zero_le _, fun p1 n1 => ?_⟩
      refine alloc n1 fun H3 s3 f1 => ?_
      refine ⟨Nat.zero_le _, fun p2 n2 => ?_⟩
      refine alloc n2 fun H4 s4 f2 => ?_
      refine ⟨Nat.zero_le _, fun p3 n3 => ?_⟩
      refine alloc n3 fun H5 s5 f3 => ?_
      refine ⟨Nat.zero_le _, fun p4 n4 => ?_⟩
      refine alloc n4 fun H6 s6 f4 => ?_
      refine ⟨(by show 4 ≤ sizeLine; decide), fun p5 n5 => ?_⟩
      refine alloc n5 fun H7 s7 f5 => ?_
      have s27 := (((s3.trans s4).trans s5).trans s6).trans s7
      have e7 := s27 _ _ e2
      refine ⟨_, rfl, a, _, dx, _, rfl, e7, X.cl_House, X.na_House_rows, (by show 2 < 1000; decide), ?_⟩
      have he2 : putF "rows" (V.ref p5) (fH (.ref b) rr) = fH (.ref b) p5 := (put_past (by decide +kernel)).trans (congrArg _ put_here)
      rw [he2]
      have hd : Hard H7 a := ⟨_, _, _, _, e7⟩
      have of : Off a H7 (upd H7 a (.ins X.C_House dx (fH (.ref b) p5))) := Off.upd
      have e8 : (upd H7 a (.ins X.C_House dx (fH (.ref b) p5))) a = some (.ins X.C_House dx (fH (.ref b) p5)) := upd_same
      have hb8 := (hb2.same s27).hard hd of
      have g1 := s7 _ _ (s6 _ _ (s5 _ _ (s4 _ _ f1)))
      have g2 := s7 _ _ (s6 _ _ (s5 _ _ f2))
      have g3 := s7 _ _ (s6 _ _ f3)
      have g4 := s7 _ _ f4
      have fr := four_rows (K := K) (C := X.C_Step) (of _ _ (hd.neL g1) g1) (of _ _ (hd.neL g2) g2) (of _ _ (hd.neL g3) g3) (of _ _ (hd.neL g4) g4)
      have f58 := of _ _ (hd.neL f5) f5
      have o28 := (Same.off a s27).trans of
      generalize upd H7 a (.ins X.C_House dx (fH (.ref b) p5)) = H8 at of e8 hb8 fr f58 o28
      obtain ⟨dxt, d, kvs, ht⟩ := hb8
      refine r_files X ht ?_
      refine ⟨d, kvs, rfl, ht.dic, ?_⟩
      refine ⟨(by show 1 ≤ sizeLine; decide), fun p9 n9 => ?_⟩
      refine alloc n9 fun H9 s9 e9 => ?_
      have oA := (Same.off a s1).trans o2
      have fr1 := off_free oA e2 n1
      have fr2 := off_free oA e2 (s3.free n2)
      have fr3 := off_free oA e2 (s3.free (s4.free n3))
      have fr4 := off_free oA e2 (s3.free (s4.free (s5.free n4)))
      have fr5 := off_free oA e2 (s3.free (s4.free (s5.free (s6.free n5))))
      have ne : ∀ {b q : Addr} {u : HO}, H b = none → H q = some u → b ≠ q := fun h1 h2 e => by
        rw [e, h2] at h1
        cases h1
      refine k H9 _ ⟨((Same.off a s1).trans (o2.trans o28)).trans (Same.off a s9), fun q u eq _ => sep_of (as := [p1, p2, p3, p4]) (s9 _ _ e8) (s9 _ _ f58) ⟨ne fr5 eq, fun b hb => by
        simp only [List.mem_cons, List.not_mem_nil, or_false] at hb
        rcases hb with rfl | rfl | rfl | rfl
        · exact ne fr1 eq
        · exact ne fr2 eq
        · exact ne fr3 eq
        · exact ne fr4 eq⟩⟩ ⟨dx, .ref b, p5, [p1, p2, p3, p4], s9 _ _ e8, s9 _ _ f58, ⟨b, rfl, ⟨dxt, d, kvs, ht.same s9⟩⟩, Two.imp fr fun _ _ z => z.same s9⟩ ⟨p9, rfl, ?_, off_free ((Same.off a s1).trans (o2.trans o28)) e8 n9⟩
      rw [e9, ht.files.len]
      rfl
def sp_House_row_fault (X : Txt K mg) : Sp := fun vs H Q _ => ∃ (a : Addr) (r : Int) (s : HSt), vs = [.ref a, .int r] ∧ HouseAt X H a s ∧ Post H Q (LstN H ((flt s r).map V.int))
theorem ok_House_row_fault (X : Txt K mg) : FnOk P w K mg base CX0 1 X.m_House_row_fault.f X.m_House_row_fault.fd ["self", "row"] (sp_House_row_fault X) := by
  refine X.m_House_row_fault.F.ok sc_House_row_fault (fun vs H Q E h => ?_) (fun cdv A outer s0 H vs Q E hr h => ?_)
  · obtain ⟨a, r, s, rfl, _⟩ := h
    rfl
  · obtain ⟨a, r, s, rfl, ⟨dx, vb, rr, as, hh⟩, k⟩ := h
    refine ⟨_, (pss_cons (ps_if (pt_cmp (pc_isN (pe_fld (pv 0) rfl)) rfl) (pss_one (ps_ret (pe_lst (pa_cons (pe_glob (v := .int (-8)) rfl X.c_NO_TREE.h ⟨_, rfl⟩) pa_nil)))) pss_nil)
        (pss_cons (ps_if (pt_not (pt_chain op_le op_lt pe_int (pv 1) (pe_glob (v := .int 4) rfl X.c_ROWS_house.h ⟨_, rfl⟩))) (pss_one (ps_ret (pe_lst (pa_cons (pe_glob (v := .int (-2)) rfl X.c_NO_ROW.h ⟨_, rfl⟩) pa_nil)))) pss_nil)
        (pss_one (ps_ret (pe_lst pa_nil))))), ?_⟩
    refine r_hbase X hh ?_
    unfold flt at k
    cases et : s.tree with
    | none =>
      have hb := hh.base
      rw [et] at hb k
      cases (show vb = .non from hb)
      refine ⟨_, rfl, ?_⟩
      refine ifT rfl ?_
      refine ⟨(by show 1 ≤ sizeLine; decide), fun p np => ?_⟩
      exact k _ _ (same_upd np) ⟨p, rfl, upd_same, np⟩
    | some t =>
      have hb := hh.tree et
      rw [et] at k
      obtain ⟨b, rfl, hb⟩ := hb
      refine ⟨_, rfl, ?_⟩
      refine ifF rfl ?_
      have bad : ¬ (0 ≤ r ∧ r < 4) → ∀ p, H p = none → Q (.ref p) (upd H p (.lst [.int (-2)])) := fun n p np => by
        simp only at k
        rw [if_neg n] at k
        exact k _ _ (same_upd np) ⟨p, rfl, upd_same, np⟩
      refine ⟨_, rfl, _, _, rfl, rfl, _, rfl, ?_⟩
      by_cases c2 : 0 ≤ r
      · refine ifT (decide_eq_true c2) ⟨_, _, rfl, rfl, _, rfl, ?_⟩
        by_cases c3 : r < 4
        · refine ifF (by show (!decide (r < 4)) = false; rw [decide_eq_true c3]; rfl) ?_
          simp only at k
          rw [if_pos ⟨c2, c3⟩] at k
          refine ⟨Nat.zero_le _, fun p np => ?_⟩
          exact k _ _ (same_upd np) ⟨p, rfl, upd_same, np⟩
        · refine ifT (by show (!decide (r < 4)) = true; rw [decide_eq_false c3]; rfl) ?_
          exact ⟨(by show 1 ≤ sizeLine; decide), bad fun h => c3 h.2⟩
      · refine ifF (decide_eq_false c2) ⟨_, rfl, ?_⟩
        exact ifT rfl ⟨(by show 1 ≤ sizeLine; decide), bad fun h => c2 h.1⟩
def sp_House_pair_fault (X : Txt K mg) : Sp := fun vs H Q _ => ∃ (a : Addr) (r q : Int) (s : HSt), vs = [.ref a, .int r, .int q] ∧ HouseAt X H a s ∧ Post H Q (LstN H ((pflt s r q).map V.int))
theorem ok_House_pair_fault (X : Txt K mg) : FnOk P w K mg base CX0 2 X.m_House_pair_fault.f X.m_House_pair_fault.fd ["self", "row", "other"] (sp_House_pair_fault X) := by
  refine X.m_House_pair_fault.F.ok sc_House_pair_fault (fun vs H Q E h => ?_) (fun cdv A outer s0 H vs Q E hr h => ?_)
  · obtain ⟨a, r, q, s, rfl, _⟩ := h
    rfl
  · obtain ⟨a, r, q, s, rfl, ⟨dx, vb, rr, as, hh⟩, k⟩ := h
    refine ⟨_, (pss_cons (ps_set (i := 3) sc_House_pair_fault.nd rfl (.inl rfl) (pe_op op_cat (pe_meth (pv 0) X.cl_House X.m_House_row_fault.m (ok_House_row_fault X) (hr.mono (by decide)) X.m_House_row_fault.b .nil pass0 (pa_cons (pv 1) pa_nil)) (pe_meth (pv 0) X.cl_House X.m_House_row_fault.m (ok_House_row_fault X) (hr.mono (by decide)) X.m_House_row_fault.b .nil pass0 (pa_cons (pv 2) pa_nil))))
        (pss_cons (ps_if (PW.pt (pw_and (pt_cmpR op_eq (pe_callB call_len_seq (by rfl) X.b_len (by decide +kernel) (pa_cons (pv 3) pa_nil)) pe_int (nomark _)) (pw_and1 (pt_cmpR op_eq (pv 1) (pv 2) (nomark _))))) (pss_one (ps_ret (pe_lst (pa_cons (pe_glob (v := .int (-3)) rfl X.c_SAME_ROW.h ⟨_, rfl⟩) pa_nil)))) pss_nil)
        (pss_one (ps_ret (pe_slice sl_list (pv 3) po_none (po_some pe_int)))))), ?_⟩
    have l1 := flt_len s r
    have l2 := flt_len s q
    refine r_hmeth X hh ?_
    refine ⟨_, rfl, a, r, s, rfl, ⟨dx, vb, rr, as, hh⟩, fun H1 v1 s1 r1 => ?_⟩
    obtain ⟨p1, rfl, e1, _⟩ := r1
    refine r_hmeth X (hh.same s1) ?_
    refine ⟨_, rfl, a, q, s, rfl, ⟨dx, vb, rr, as, hh.same s1⟩, fun H2 v2 s2 r2 => ?_⟩
    obtain ⟨p2, rfl, e2, _⟩ := r2
    refine ⟨_, _, _, _, rfl, rfl, s2 _ _ e1, e2, line_le (by rw [List.length_map, List.length_map]; omega), fun p3 n3 => ?_⟩
    rw [← List.map_append]
    refine alloc n3 fun H3 s3 e3 => ?_
    have s03 := (s1.trans s2).trans s3
    unfold pflt at k
    generalize flt s r ++ flt s q = F at e3 k
    have cut : ∀ p, H3 p = none → ¬ (F.length = 0 ∧ r = q) → Q (.ref p) (upd H3 p (.lst (cutV (F.map V.int) none (some (1 : Int))))) := fun p np n => by
      rw [if_neg n] at k
      refine k _ _ (s03.trans (same_upd np)) ⟨p, rfl, ?_, Same.free s03 np⟩
      rw [upd_same, show (some (1 : Int)) = some ((1 : Nat) : Int) from rfl, cut_to, List.map_take]
    refine ⟨_, rfl, _, _, rfl, .inl (SqL.of e3), rfl, _, rfl, ?_⟩
    rw [dec_i, List.length_map]
    by_cases c1 : F.length = 0
    · refine ifT (decide_eq_true (by omega)) ?_
      refine ⟨_, rfl, _, rfl, rfl, _, rfl, ?_⟩
      rw [dec_i]
      by_cases c2 : r = q
      · rw [if_pos ⟨c1, c2⟩] at k
        refine ifT (decide_eq_true c2) ⟨(by show 1 ≤ sizeLine; decide), fun p np => ?_⟩
        exact k _ _ (s03.trans (same_upd np)) ⟨p, rfl, upd_same, Same.free s03 np⟩
      · refine ifF (decide_eq_false c2) ⟨_, rfl, _, rfl, _, _, rfl, SqL.of e3, fun p np => cut p np fun h => c2 h.2⟩
    · refine ifF (decide_eq_false (by omega)) ⟨_, rfl, _, rfl, _, _, rfl, SqL.of e3, fun p np => cut p np fun h => c1 h.1⟩
def sp_House_put_row (X : Txt K mg) : Sp := fun vs H Q _ => ∃ (a r : Addr) (k : Nat) (t : Tr') (row : List St') (s : HSt), vs = [.ref a, vN k, .ref r] ∧ HouseAt X H a s ∧ s.tree = some t ∧ s.rows.length = 4 ∧ k < 4 ∧ RowAt K X.C_Step H r row ∧ ∀ H' : Hp, Off a H H' → (∀ q u, H q = some u → Sep H a q → r ≠ q → Sep H' a q) → HouseAt X H' a { s with rows := s.rows.set k row } → Q .non H'
theorem ok_House_put_row (X : Txt K mg) : FnOk P w K mg base CX0 1 X.m_House_put_row.f X.m_House_put_row.fd ["self", "number", "row"] (sp_House_put_row X) := by
  refine X.m_House_put_row.F.ok sc_House_put_row (fun vs H Q E h => ?_) (fun cdv A outer s0 H vs Q E hr h => ?_)
  · obtain ⟨a, r, n, t, row, s, rfl, _⟩ := h
    rfl
  · obtain ⟨a, r, n, t, row, s, rfl, ⟨dx, vb, rr, as, hh⟩, et, hl, hn, hr, k⟩ := h
    refine ⟨_, (pss_one (ps_fld (pv 0) (pe_op op_cat (pe_op op_cat (pe_slice sl_list (pe_fld (pv 0) rfl) po_none (po_some (pv 1))) (pe_lst (pa_cons (pv 2) pa_nil))) (pe_slice sl_list (pe_fld (pv 0) rfl) (po_some (pe_op op_add (pv 1) pe_int)) po_none)) rfl)), ?_⟩
    have la : as.length = 4 := by
      have := hh.each.len
      rw [rowsV_some et] at this
      omega
    refine r_hrows X hh ?_
    refine ⟨_, rfl, _, rfl, _, _, rfl, SqL.of hh.rows, fun p1 n1 => ?_⟩
    refine alloc n1 fun H1 s1 e1 => ?_
    refine ⟨_, rfl, (by show 1 ≤ sizeLine; decide), fun p2 n2 => ?_⟩
    refine alloc n2 fun H2 s2 e2 => ?_
    have ec1 : cutV (as.map V.ref) none (some ((n : Nat) : Int)) = (as.take n).map V.ref := by rw [cut_to, List.map_take]
    rw [ec1] at e1
    refine ⟨_, _, _, _, rfl, rfl, s2 _ _ e1, e2, line_le (by simp only [List.length_map, List.length_take, List.length_cons, List.length_nil]; omega), fun p3 n3 => ?_⟩
    refine alloc n3 fun H3 s3 e3 => ?_
    have s03 := (s1.trans s2).trans s3
    refine r_hrows X (hh.same s03) ?_
    refine ⟨_, rfl, _, _, rfl, rfl, _, rfl, _, _, rfl, SqL.of (hh.same s03).rows, fun p4 n4 => ?_⟩
    have ec2 : cutV (as.map V.ref) (some (((n : Nat) : Int) + 1)) none = (as.drop (n + 1)).map V.ref := by
      rw [show ((n : Nat) : Int) + 1 = ((n + 1 : Nat) : Int) by omega, cut_from, List.map_drop]
    rw [ec2]
    refine alloc n4 fun H4 s4 e4 => ?_
    refine ⟨_, _, _, _, rfl, rfl, s4 _ _ e3, e4, line_le (by simp only [List.length_map, List.length_take, List.length_drop, List.length_append, List.length_cons, List.length_nil]; omega), fun p5 n5 => ?_⟩
    refine alloc n5 fun H5 s5 e5 => ?_
    have s05 := (s03.trans s4).trans s5
    have h5 := hh.same s05
    refine ⟨_, rfl, a, _, dx, _, rfl, h5.ins, X.cl_House, X.na_House_rows, (by show 2 < 1000; decide), ?_⟩
    have he2 : putF "rows" (V.ref p5) (fH vb rr) = fH vb p5 := (put_past (by decide +kernel)).trans (congrArg _ put_here)
    rw [he2]
    have of : Off a H5 (upd H5 a (.ins X.C_House dx (fH vb p5))) := Off.upd
    have e5' : H5 p5 = some (.lst ((as.take n ++ r :: as.drop (n + 1)).map V.ref)) := by
      rw [e5]
      simp
    refine k _ ((Same.off a s05).trans of) (fun q u eq z hrq => sep_of upd_same (of _ _ (h5.hard.neL e5') e5') ⟨fun e => ?_, fun b hb => ?_⟩) ⟨dx, vb, p5, as.take n ++ r :: as.drop (n + 1), upd_same, of _ _ (h5.hard.neL e5) e5', h5.base.hard h5.hard of, ?_⟩
    · have := (s03.trans s4) _ _ eq
      rw [← e, n5] at this
      cases this
    · have zz := (z _ _ _ _ _ hh.ins hh.rows).2
      rcases List.mem_append.mp hb with hb | hb
      · exact zz b (List.mem_of_mem_take hb)
      · rcases List.mem_cons.mp hb with rfl | hb
        · exact hrq
        · exact zz b (List.mem_of_mem_drop hb)
    have ev : rowsV ⟨s.tree, s.rows.set n row⟩ = s.rows.take n ++ row :: s.rows.drop (n + 1) := by
      rw [rowsV_some (s := ⟨s.tree, s.rows.set n row⟩) et]
      show s.rows.set n row = _
      rw [List.set_eq_take_append_cons_drop, if_pos (by omega)]
    rw [ev]
    have he := h5.each
    rw [rowsV_some et] at he
    exact Two.app (Two.imp (he.take n) fun _ _ z => z.hard h5.hard of) (.cons ((hr.same s05).hard h5.hard of) (Two.imp (he.drop (n + 1)) fun _ _ z => z.hard h5.hard of))
end
end Rw

/-! part RwHouse2 -/
set_option Elab.async false
set_option linter.all false
set_option maxRecDepth 100000
set_option maxHeartbeats 4000000
namespace Rw
open PySem PySem.Spec PyProof.Rows L2
open VapatBase (Tokens)
/-! The house: its methods. -/
open VapatBase (applied appliedAll fileIn flatSteps flatTree)
open Vapatd (State rowsMerged allConflicts)
open RM (stepOf treeOf)
theorem fsteps_len {l : List St'} (h : ∀ s ∈ l, Okk s) : (flatSteps l).length ≤ 21 * l.length + 1 := by
  have := fss_len h
  show (l.flatMap VapatBase.flatStep).length + 1 ≤ _
  omega
theorem told_some {t u : Tr'} {l : List St'} (e : appliedAll t l = some u) : Vapatd.treeTold t l = flatTree u := by
  unfold Vapatd.treeTold
  rw [e]
theorem merged_on {t ta tb : Tr'} {a b : List St'} {x : List St' × List St'} (h : rowsMerged a b = some x) (s : RM.Srt t) (e1 : appliedAll t a = some ta) (e2 : appliedAll t b = some tb) : ∃ u, appliedAll t (a ++ x.1) = some u := by
  obtain ⟨u, e⟩ := RM.mg_apa (RM.mg_of_rm h) s e1 e2
  exact ⟨u, RM.apa_app_iff.mpr ⟨ta, e1, e⟩⟩
theorem tree_len {n : Nat} {t : Tr'} (tk : TOk n t) (hn : n ≤ 2000) : (flatTree t).length ≤ 30000 := by
  have := flat_len tk.tk
  have l := tk.len
  have e : (flatTree t).length = (flatFiles t).length + 1 := rfl
  have : (n + 2) * t.length ≤ 2002 * 10 := Nat.mul_le_mul (by omega) l
  omega
theorem row_app {K : PySem.W.Frag} {C : Addr} {H : Hp} {p : Addr} {as bs : List Addr} {a b : List St'} (e : H p = some (.lst (as.map V.ref ++ bs.map V.ref))) (h1 : StepsAt K C H as a) (h2 : StepsAt K C H bs b) : RowAt K C H p (a ++ b) :=
  ⟨as ++ bs, by rw [e, List.map_append], Two.app h1 h2⟩
theorem st_shown {s : HSt} {r : Int} : Vapatd.step s (.shown r) = Vapatd.onRow s r fun _ _ l => (s, flatSteps l) := rfl
theorem st_outcome {s : HSt} {r : Int} : Vapatd.step s (.outcome r) = Vapatd.onRow s r fun t _ l => (s, Vapatd.treeTold t l) := rfl
theorem st_drop {s : HSt} {r : Int} : Vapatd.step s (.drop r) = Vapatd.onRow s r fun _ k _ => ({ s with rows := s.rows.set k [] }, [0]) := rfl
theorem st_step {s : HSt} {r : Int} {l : List Int} : Vapatd.step s (.step r l) = Vapatd.onRow s r fun t k row => match VapatBase.whole VapatBase.readStep l with
  | none => (s, [-1])
  | some p => if Vapatd.ROW ≤ row.length then (s, [-6]) else match (VapatBase.appliedAll t row).bind fun u => VapatBase.applied u p with
    | none => (s, [-4])
    | some _ => ({ s with rows := s.rows.set k (row ++ [p]) }, [Vapatd.int row.length]) := rfl
theorem st_merge {s : HSt} {r q : Int} : Vapatd.step s (.merge r q) = Vapatd.onRows s r q fun t _ a b => (s, match rowsMerged a b with
    | none => [0]
    | some x => 1 :: Vapatd.treeTold t (a ++ x.1)) := rfl
theorem st_sides {s : HSt} {r q : Int} : Vapatd.step s (.sides r q) = Vapatd.onRows s r q fun _ _ a b => (s, match rowsMerged a b with
    | none => [0]
    | some x => 1 :: (VapatBase.flatSteps x.1 ++ VapatBase.flatSteps x.2)) := rfl
theorem st_pull {s : HSt} {r q : Int} : Vapatd.step s (.pull r q) = Vapatd.onRows s r q fun _ k a b => match rowsMerged a b with
  | none => (s, [-7])
  | some x => if Vapatd.LONG < a.length + b.length then (s, [-6]) else ({ s with rows := s.rows.set k (a ++ x.1) }, [Vapatd.int (a.length + b.length)]) := rfl
section
variable {P : Program} {w : World} {K : PySem.W.Frag} {mg : Str → Option Value} {base : Heap}
def sp_House_shown (X : Txt K mg) : Sp := fun vs H Q _ => ∃ (a : Addr) (r : Int) (s : HSt), vs = [.ref a, .int r] ∧ HouseAt X H a s ∧ Good s ∧ PostH X H a Q (Vapatd.step s (.shown r))
theorem ok_House_shown (X : Txt K mg) : FnOk P w K mg base CX0 3 X.m_House_shown.f X.m_House_shown.fd ["self", "number"] (sp_House_shown X) := by
  refine X.m_House_shown.F.ok sc_House_shown (fun vs H Q E h => ?_) (fun cdv A outer s0 H vs Q E hr h => ?_)
  · obtain ⟨a, r, s, rfl, _⟩ := h
    rfl
  · obtain ⟨a, r, s, rfl, ⟨dx, vb, rr, as, hh⟩, g, k⟩ := h
    refine ⟨_, (pss_cons (ps_set (i := 2) sc_House_shown.nd rfl (.inl rfl) (pe_meth (pv 0) X.cl_House X.m_House_row_fault.m (ok_House_row_fault X) (hr.mono (by decide)) X.m_House_row_fault.b .nil pass0 (pa_cons (pv 1) pa_nil)))
        (pss_cons (ps_if (pt_cmpR op_gt (pe_callB call_len_seq (by rfl) X.b_len (by decide +kernel) (pa_cons (pv 2) pa_nil)) pe_int (nomark _)) (pss_one (ps_ret (pv 2))) pss_nil)
        (pss_one (ps_ret (pe_call (ok_row_numbers X) (hr.mono (by decide)) rfl X.d_row_numbers.g X.d_row_numbers.F.kp X.d_row_numbers.b .nil pass0 (pa_cons (pe_ix ix_list (pe_fld (pv 0) rfl) (pv 1) (fun _ _ => rfl)) pa_nil)))))), ?_⟩
    refine r_hmeth X hh ?_
    refine ⟨_, rfl, a, r, s, rfl, ⟨dx, vb, rr, as, hh⟩, fun H1 v1 s1 r1 => ?_⟩
    obtain ⟨p1, rfl, e1, fp1⟩ := r1
    have h1 := hh.same s1
    rcases row_cases g r with ⟨e, ef, eo⟩ | ⟨ef, t, n, row, et, rfl, hn, er, eo⟩
    · rw [ef] at e1
      rw [st_shown, eo] at k
      refine ⟨_, rfl, _, _, rfl, .inl (SqL.of e1), _, _, rfl, rfl, _, rfl, ?_⟩
      refine ifT rfl ?_
      exact ⟨_, rfl, k H1 _ (hh.offS s1) ⟨dx, vb, rr, as, h1⟩ ⟨p1, rfl, e1, fp1⟩⟩
    rw [ef] at e1
    rw [st_shown, eo] at k
    refine ⟨_, rfl, _, _, rfl, .inl (SqL.of e1), _, _, rfl, rfl, _, rfl, ?_⟩
    refine ifF rfl ?_
    obtain ⟨lr, okr, u, eu⟩ := g.row t et row (List.mem_of_getElem? er)
    have tk := g.tk t et
    obtain ⟨b, eb, hb⟩ := h1.row et er
    have ib : atI (as.map V.ref) ((n : Nat) : Int) = some (.ref b) := atI_nat (by rw [List.getElem?_map, eb]; rfl)
    refine r_hrows X h1 ?_
    refine ⟨_, rfl, _, _, _, _, rfl, rfl, SqL.of h1.rows, ib, ?_⟩
    refine ⟨b, row, rfl, hb, okr, by omega, fun H2 v2 s2 r2 => ?_⟩
    exact k H2 _ (hh.offS (s1.trans s2)) ⟨dx, vb, rr, as, h1.same s2⟩ (LstN.back r2 s1)
def sp_House_outcome (X : Txt K mg) : Sp := fun vs H Q _ => ∃ (a : Addr) (r : Int) (s : HSt), vs = [.ref a, .int r] ∧ HouseAt X H a s ∧ Good s ∧ PostH X H a Q (Vapatd.step s (.outcome r))
theorem ok_House_outcome (X : Txt K mg) : FnOk P w K mg base CX0 6 X.m_House_outcome.f X.m_House_outcome.fd ["self", "number"] (sp_House_outcome X) := by
  refine X.m_House_outcome.F.ok sc_House_outcome (fun vs H Q E h => ?_) (fun cdv A outer s0 H vs Q E hr h => ?_)
  · obtain ⟨a, r, s, rfl, _⟩ := h
    rfl
  · obtain ⟨a, r, s, rfl, ⟨dx, vb, rr, as, hh⟩, g, k⟩ := h
    refine ⟨_, (pss_cons (ps_set (i := 2) sc_House_outcome.nd rfl (.inl rfl) (pe_meth (pv 0) X.cl_House X.m_House_row_fault.m (ok_House_row_fault X) (hr.mono (by decide)) X.m_House_row_fault.b .nil pass0 (pa_cons (pv 1) pa_nil)))
        (pss_cons (ps_if (pt_cmpR op_gt (pe_callB call_len_seq (by rfl) X.b_len (by decide +kernel) (pa_cons (pv 2) pa_nil)) pe_int (nomark _)) (pss_one (ps_ret (pv 2))) pss_nil)
        (pss_one (ps_ret (pe_meth0 (pe_meth (pe_fld (pv 0) rfl) X.cl_Tree X.m_Tree_behind.m (ok_Tree_behind X) (hr.mono (by decide)) X.m_Tree_behind.b .nil pass0 (pa_cons (pe_ix ix_list (pe_fld (pv 0) rfl) (pv 1) (fun _ _ => rfl)) pa_nil)) X.cl_Tree X.m_Tree_numbers.m (ok_Tree_numbers X) (hr.mono (by decide)) X.m_Tree_numbers.b .nil pass0))))), ?_⟩
    refine r_hmeth X hh ?_
    refine ⟨_, rfl, a, r, s, rfl, ⟨dx, vb, rr, as, hh⟩, fun H1 v1 s1 r1 => ?_⟩
    obtain ⟨p1, rfl, e1, fp1⟩ := r1
    have h1 := hh.same s1
    rcases row_cases g r with ⟨e, ef, eo⟩ | ⟨ef, t, n, row, et, rfl, hn, er, eo⟩
    · rw [ef] at e1
      rw [st_outcome, eo] at k
      refine ⟨_, rfl, _, _, rfl, .inl (SqL.of e1), _, _, rfl, rfl, _, rfl, ?_⟩
      refine ifT rfl ?_
      exact ⟨_, rfl, k H1 _ (hh.offS s1) ⟨dx, vb, rr, as, h1⟩ ⟨p1, rfl, e1, fp1⟩⟩
    rw [ef] at e1
    rw [st_outcome, eo] at k
    refine ⟨_, rfl, _, _, rfl, .inl (SqL.of e1), _, _, rfl, rfl, _, rfl, ?_⟩
    refine ifF rfl ?_
    obtain ⟨lr, okr, u, eu⟩ := g.row t et row (List.mem_of_getElem? er)
    have tk := g.tk t et
    obtain ⟨b, eb, hb⟩ := h1.row et er
    have ib : atI (as.map V.ref) ((n : Nat) : Int) = some (.ref b) := atI_nat (by rw [List.getElem?_map, eb]; rfl)
    obtain ⟨bt, rfl, dxt, d, kvs, ht⟩ := h1.tree et
    refine r_hbase X h1 ?_
    refine ⟨bt, dxt, _, rfl, ht.ins, fT_no (by decide +kernel), ?_⟩
    refine r_hrows X h1 ?_
    refine ⟨_, rfl, _, _, _, _, rfl, rfl, SqL.of h1.rows, ib, ?_⟩
    refine ⟨bt, b, row, t, u, rfl, ⟨dxt, d, kvs, ht⟩, hb, okr, by omega, tk.mono (by decide), eu, fun H2 v2 s2 r2 => ?_⟩
    obtain ⟨c, rfl, dxc, dc, kc, hc⟩ := r2
    refine ⟨c, dxc, _, rfl, hc.ins, fT_no (by decide +kernel), ?_⟩
    refine ⟨c, u, rfl, ⟨dxc, dc, kc, hc⟩, (apa_ok tk okr eu).mono (by omega), fun H3 v3 s3 r3 => ?_⟩
    refine k H3 _ (hh.offS ((s1.trans s2).trans s3)) ⟨dx, _, rr, as, h1.same (s2.trans s3)⟩ ?_
    show LstN H ((Vapatd.treeTold t row).map V.int) H3 v3
    rw [told_some eu]
    exact LstN.back r3 (s1.trans s2)
def sp_House_drop (X : Txt K mg) : Sp := fun vs H Q _ => ∃ (a : Addr) (r : Int) (s : HSt), vs = [.ref a, .int r] ∧ HouseAt X H a s ∧ Good s ∧ PostH X H a Q (Vapatd.step s (.drop r))
theorem ok_House_drop (X : Txt K mg) : FnOk P w K mg base CX0 2 X.m_House_drop.f X.m_House_drop.fd ["self", "number"] (sp_House_drop X) := by
  refine X.m_House_drop.F.ok sc_House_drop (fun vs H Q E h => ?_) (fun cdv A outer s0 H vs Q E hr h => ?_)
  · obtain ⟨a, r, s, rfl, _⟩ := h
    rfl
  · obtain ⟨a, r, s, rfl, ⟨dx, vb, rr, as, hh⟩, g, k⟩ := h
    refine ⟨_, (pss_cons (ps_set (i := 2) sc_House_drop.nd rfl (.inl rfl) (pe_meth (pv 0) X.cl_House X.m_House_row_fault.m (ok_House_row_fault X) (hr.mono (by decide)) X.m_House_row_fault.b .nil pass0 (pa_cons (pv 1) pa_nil)))
        (pss_cons (ps_if (pt_cmpR op_gt (pe_callB call_len_seq (by rfl) X.b_len (by decide +kernel) (pa_cons (pv 2) pa_nil)) pe_int (nomark _)) (pss_one (ps_ret (pv 2))) pss_nil)
        (pss_cons (ps_expr (pe_meth (pv 0) X.cl_House X.m_House_put_row.m (ok_House_put_row X) (hr.mono (by decide)) X.m_House_put_row.b .nil pass0 (pa_cons (pv 1) (pa_cons (pe_lst pa_nil) pa_nil))))
        (pss_one (ps_ret (pe_lst (pa_cons pe_int pa_nil))))))), ?_⟩
    refine r_hmeth X hh ?_
    refine ⟨_, rfl, a, r, s, rfl, ⟨dx, vb, rr, as, hh⟩, fun H1 v1 s1 r1 => ?_⟩
    obtain ⟨p1, rfl, e1, fp1⟩ := r1
    have h1 := hh.same s1
    rcases row_cases g r with ⟨e, ef, eo⟩ | ⟨ef, t, n, row, et, rfl, hn, er, eo⟩
    · rw [ef] at e1
      rw [st_drop, eo] at k
      refine ⟨_, rfl, _, _, rfl, .inl (SqL.of e1), _, _, rfl, rfl, _, rfl, ?_⟩
      refine ifT rfl ?_
      exact ⟨_, rfl, k H1 _ (hh.offS s1) ⟨dx, vb, rr, as, h1⟩ ⟨p1, rfl, e1, fp1⟩⟩
    rw [ef] at e1
    rw [st_drop, eo] at k
    refine ⟨_, rfl, _, _, rfl, .inl (SqL.of e1), _, _, rfl, rfl, _, rfl, ?_⟩
    refine ifF rfl ?_
    obtain ⟨lr, okr, u, eu⟩ := g.row t et row (List.mem_of_getElem? er)
    have tk := g.tk t et
    obtain ⟨b, eb, hb⟩ := h1.row et er
    have ib : atI (as.map V.ref) ((n : Nat) : Int) = some (.ref b) := atI_nat (by rw [List.getElem?_map, eb]; rfl)
    refine r_hmeth X h1 ?_
    refine ⟨_, rfl, Nat.zero_le _, fun p2 n2 => ?_⟩
    refine alloc n2 fun H2 s2 e2 => ?_
    refine ⟨a, p2, n, t, [], s, rfl, ⟨dx, vb, rr, as, h1.same s2⟩, et, g.len t et, hn, ⟨[], e2, .nil⟩, fun H3 o3 k3 h3 => ?_⟩
    refine ⟨(by show 1 ≤ sizeLine; decide), fun p np => ?_⟩
    exact k _ _ (offS_put hh (s1.trans s2) (s1.free n2) o3 k3 h3 (same_upd np)) (h3.same (same_upd np)) (by
      obtain ⟨_, _, _, _, h3⟩ := h3
      exact ⟨p, rfl, upd_same, off_free ((Same.off a (s1.trans s2)).trans o3) h3.ins np⟩)
def sp_House_add_step (X : Txt K mg) : Sp := fun vs H Q _ => ∃ (a z : Addr) (r : Int) (s : HSt) (ns : List Int), vs = [.ref a, .int r, .ref z] ∧ HouseAt X H a s ∧ Good s ∧ SqL K H z (ns.map V.int) ∧ ns.length ≤ 1000 ∧ PostH X H a Q (Vapatd.step s (.step r ns))
theorem ok_House_add_step (X : Txt K mg) : FnOk P w K mg base CX0 6 X.m_House_add_step.f X.m_House_add_step.fd ["self", "number", "numbers"] (sp_House_add_step X) := by
  refine X.m_House_add_step.F.ok sc_House_add_step (fun vs H Q E h => ?_) (fun cdv A outer s0 H vs Q E hr h => ?_)
  · obtain ⟨a, z, r, s, ns, rfl, _⟩ := h
    rfl
  · obtain ⟨a, z, r, s, ns, rfl, ⟨dx, vb, rr, as, hh⟩, g, hz, lz, k⟩ := h
    refine ⟨_, (pss_cons (ps_set (i := 3) sc_House_add_step.nd rfl (.inl rfl) (pe_meth (pv 0) X.cl_House X.m_House_row_fault.m (ok_House_row_fault X) (hr.mono (by decide)) X.m_House_row_fault.b .nil pass0 (pa_cons (pv 1) pa_nil)))
        (pss_cons (ps_if (pt_cmpR op_gt (pe_callB call_len_seq (by rfl) X.b_len (by decide +kernel) (pa_cons (pv 3) pa_nil)) pe_int (nomark _)) (pss_one (ps_ret (pv 3))) pss_nil)
        (pss_cons (ps_set (i := 4) sc_House_add_step.nd rfl (.inl rfl) (pe_call (ok_read_step X) (hr.mono (by decide)) rfl X.d_read_step.g X.d_read_step.F.kp X.d_read_step.b .nil pass0 (pa_cons (pv 2) pa_nil)))
        (pss_cons (ps_set (i := 5) sc_House_add_step.nd rfl (.inl rfl) (pe_ix ix_list (pe_fld (pv 0) rfl) (pv 1) (fun _ _ => rfl)))
        (pss_cons (ps_if (pt_cmp (pc_isN (pv 4)) rfl) (pss_one (ps_ret (pe_lst (pa_cons (pe_glob (v := .int (-1)) rfl X.c_NO_FORM.h ⟨_, rfl⟩) pa_nil)))) pss_nil)
        (pss_cons (ps_if (pt_cmpR op_ge (pe_callB call_len_seq (by rfl) X.b_len (by decide +kernel) (pa_cons (pv 5) pa_nil)) (pe_glob (v := .int 8) rfl X.c_MOST_STEPS.h ⟨_, rfl⟩) (nomark _)) (pss_one (ps_ret (pe_lst (pa_cons (pe_glob (v := .int (-6)) rfl X.c_TOO_MANY.h ⟨_, rfl⟩) pa_nil)))) pss_nil)
        (pss_cons (ps_if (pt_not (pt_val (pe_meth (pe_meth (pe_fld (pv 0) rfl) X.cl_Tree X.m_Tree_behind.m (ok_Tree_behind X) (hr.mono (by decide)) X.m_Tree_behind.b .nil pass0 (pa_cons (pv 5) pa_nil)) X.cl_Tree X.m_Tree_fits.m (ok_Tree_fits X) (hr.mono (by decide)) X.m_Tree_fits.b .nil pass0 (pa_cons (pv 4) pa_nil)))) (pss_one (ps_ret (pe_lst (pa_cons (pe_glob (v := .int (-4)) rfl X.c_DOESNT_FIT.h ⟨_, rfl⟩) pa_nil)))) pss_nil)
        (pss_cons (ps_expr (pe_meth (pv 0) X.cl_House X.m_House_put_row.m (ok_House_put_row X) (hr.mono (by decide)) X.m_House_put_row.b .nil pass0 (pa_cons (pv 1) (pa_cons (pe_op op_cat (pv 5) (pe_lst (pa_cons (pv 4) pa_nil))) pa_nil))))
        (pss_one (ps_ret (pe_lst (pa_cons (pe_callB call_len_seq (by rfl) X.b_len (by decide +kernel) (pa_cons (pv 5) pa_nil)) pa_nil)))))))))))), ?_⟩
    refine r_hmeth X hh ?_
    refine ⟨_, rfl, a, r, s, rfl, ⟨dx, vb, rr, as, hh⟩, fun H1 v1 s1 r1 => ?_⟩
    obtain ⟨p1, rfl, e1, fp1⟩ := r1
    have h1 := hh.same s1
    rcases row_cases g r with ⟨e, ef, eo⟩ | ⟨ef, t, n, row, et, rfl, hn, er, eo⟩
    · rw [ef] at e1
      rw [st_step, eo] at k
      refine ⟨_, rfl, _, _, rfl, .inl (SqL.of e1), _, _, rfl, rfl, _, rfl, ?_⟩
      refine ifT rfl ?_
      exact ⟨_, rfl, k H1 _ (hh.offS s1) ⟨dx, vb, rr, as, h1⟩ ⟨p1, rfl, e1, fp1⟩⟩
    rw [ef] at e1
    rw [st_step, eo] at k
    refine ⟨_, rfl, _, _, rfl, .inl (SqL.of e1), _, _, rfl, rfl, _, rfl, ?_⟩
    refine ifF rfl ?_
    obtain ⟨lr, okr, u, eu⟩ := g.row t et row (List.mem_of_getElem? er)
    have tk := g.tk t et
    obtain ⟨b, eb, hb⟩ := h1.row et er
    have ib : atI (as.map V.ref) ((n : Nat) : Int) = some (.ref b) := atI_nat (by rw [List.getElem?_map, eb]; rfl)
    rw [RM.step_is] at k
    refine ⟨_, rfl, z, ns, rfl, s1.seq hz, lz, fun H2 v2 s2 r2 => ?_⟩
    have s02 := s1.trans s2
    have h2 := h1.same s2
    have hb2 := hb.same s2
    refine r_hrows X h2 ?_
    refine ⟨_, rfl, _, _, _, _, rfl, rfl, SqL.of h2.rows, ib, ?_⟩
    have out : ∀ (p : Addr) (e : Int), H2 p = none → PostH X H a Q (s, [e]) → Q (.ref p) (upd H2 p (.lst [.int e])) := fun p e np k => k _ _ (hh.offS (s02.trans (same_upd np))) ⟨dx, vb, rr, as, h2.same (same_upd np)⟩ ⟨p, rfl, upd_same, Same.free s02 np⟩
    cases es : stepOf ns with
    | none =>
      rw [es] at r2 k
      cases (show v2 = .non from r2)
      refine ⟨_, rfl, _, rfl, ?_⟩
      refine ifT rfl ?_
      exact ⟨(by show 1 ≤ sizeLine; decide), fun p np => out p _ np k⟩
    | some x =>
      rw [es] at r2 k
      simp only at k
      have okx := step_okk es
      obtain ⟨c, rfl, hc⟩ := r2
      refine ⟨_, rfl, _, rfl, ?_⟩
      refine ifF rfl ?_
      obtain ⟨cs, eb2, hcs⟩ := hb2
      refine ⟨_, rfl, _, _, rfl, .inl (SqL.of eb2), _, _, rfl, rfl, _, rfl, ?_⟩
      have lc : cs.length = row.length := hcs.len
      rw [List.length_map, lc]
      by_cases c8 : Vapatd.ROW ≤ row.length
      · rw [if_pos c8] at k
        refine ifT (decide_eq_true (by unfold Vapatd.ROW at c8; omega)) ?_
        exact ⟨(by show 1 ≤ sizeLine; decide), fun p np => out p _ np k⟩
      · rw [if_neg c8] at k
        refine ifF (decide_eq_false (by unfold Vapatd.ROW at c8; omega)) ?_
        obtain ⟨bt, rfl, dxt, d, kvs, ht⟩ := h2.tree et
        refine r_hbase X h2 ?_
        refine ⟨bt, dxt, _, rfl, ht.ins, fT_no (by decide +kernel), ?_⟩
        refine ⟨_, rfl, ?_⟩
        refine ⟨bt, b, row, t, u, rfl, ⟨dxt, d, kvs, ht⟩, ⟨cs, eb2, hcs⟩, okr, by omega, tk.mono (by decide), eu, fun H3 v3 s3 r3 => ?_⟩
        obtain ⟨c3, rfl, dxc, dc, kc, h3⟩ := r3
        refine ⟨c3, dxc, _, rfl, h3.ins, fT_no (by decide +kernel), ?_⟩
        refine ⟨_, rfl, ?_⟩
        refine ⟨c3, c, x, u, rfl, ⟨dxc, dc, kc, h3⟩, hc.same s3, fun H4 s4 => ⟨_, rfl, ?_⟩⟩
        have s24 := s3.trans s4
        have s04 := s02.trans s24
        have h4 := h2.same s24
        have ek : ((appliedAll t row).bind fun u => applied u x) = applied u x := by rw [eu]; rfl
        rw [ek] at k
        cases ea : applied u x with
        | none =>
          rw [ea] at k
          refine ifT rfl ?_
          refine ⟨(by show 1 ≤ sizeLine; decide), fun p np => ?_⟩
          exact k _ _ (hh.offS (s04.trans (same_upd np))) ⟨dx, _, rr, as, h4.same (same_upd np)⟩ ⟨p, rfl, upd_same, Same.free s04 np⟩
        | some w =>
          rw [ea] at k
          refine ifF rfl ?_
          refine r_hmeth X h4 ?_
          refine ⟨_, rfl, _, rfl, _, rfl, (by show 1 ≤ sizeLine; decide), fun p5 n5 => ?_⟩
          refine alloc n5 fun H5 s5 e5 => ?_
          have s25 := s24.trans s5
          refine ⟨_, _, _, _, rfl, rfl, s25 _ _ eb2, e5, line_le (by simp only [List.length_map, List.length_cons, List.length_nil]; omega), fun p6 n6 => ?_⟩
          refine alloc n6 fun H6 s6 e6 => ?_
          have s26 := s25.trans s6
          have s46 := s5.trans s6
          refine ⟨a, p6, n, t, row ++ [x], s, rfl, ⟨dx, _, rr, as, h4.same s46⟩, et, g.len t et, hn, row_app (bs := [c]) e6 (steps_same hcs s26) (.one (hc.same s26)), fun H7 o7 k7 h7 => ?_⟩
          have er7 : H7 b = some (.lst (cs.map V.ref)) := o7 _ _ ((h4.same s46).hard.neL (s26 _ _ eb2)) (s26 _ _ eb2)
          refine ⟨_, rfl, _, _, rfl, .inl (SqL.of er7), (by show 1 ≤ sizeLine; decide), fun p np => ?_⟩
          refine k _ _ (offS_put hh (s04.trans s46) ((s04.trans s5).free n6) o7 k7 h7 (same_upd np)) (h7.same (same_upd np)) ⟨p, rfl, ?_, (by
            obtain ⟨_, _, _, _, h7⟩ := h7
            exact off_free ((Same.off a (s04.trans s46)).trans o7) h7.ins np)⟩
          rw [upd_same, List.length_map, lc]
          rfl
def sp_House_merge (X : Txt K mg) : Sp := fun vs H Q _ => ∃ (a : Addr) (r q : Int) (s : HSt), vs = [.ref a, .int r, .int q] ∧ HouseAt X H a s ∧ Good s ∧ PostH X H a Q (Vapatd.step s (.merge r q))
theorem ok_House_merge (X : Txt K mg) : FnOk P w K mg base CX0 10 X.m_House_merge.f X.m_House_merge.fd ["self", "one", "other"] (sp_House_merge X) := by
  refine X.m_House_merge.F.ok sc_House_merge (fun vs H Q E h => ?_) (fun cdv A outer s0 H vs Q E hr h => ?_)
  · obtain ⟨a, r, q, s, rfl, _⟩ := h
    rfl
  · obtain ⟨a, r, q, s, rfl, ⟨dx, vb, rr, as, hh⟩, g, k⟩ := h
    refine ⟨_, (pss_cons (ps_set (i := 3) sc_House_merge.nd rfl (.inl rfl) (pe_meth (pv 0) X.cl_House X.m_House_pair_fault.m (ok_House_pair_fault X) (hr.mono (by decide)) X.m_House_pair_fault.b .nil pass0 (pa_cons (pv 1) (pa_cons (pv 2) pa_nil))))
        (pss_cons (ps_if (pt_cmpR op_gt (pe_callB call_len_seq (by rfl) X.b_len (by decide +kernel) (pa_cons (pv 3) pa_nil)) pe_int (nomark _)) (pss_one (ps_ret (pv 3))) pss_nil)
        (pss_cons (ps_set (i := 4) sc_House_merge.nd rfl (.inl rfl) (pe_call (ok_merged X) (hr.mono (by decide)) rfl X.d_merged.g X.d_merged.F.kp X.d_merged.b .nil pass0 (pa_cons (pe_ix ix_list (pe_fld (pv 0) rfl) (pv 1) (fun _ _ => rfl)) (pa_cons (pe_ix ix_list (pe_fld (pv 0) rfl) (pv 2) (fun _ _ => rfl)) pa_nil))))
        (pss_cons (ps_if (pt_cmp (pc_isN (pv 4)) rfl) (pss_one (ps_ret (pe_lst (pa_cons pe_int pa_nil)))) pss_nil)
        (pss_one (ps_ret (pe_op op_cat (pe_lst (pa_cons pe_int pa_nil)) (pe_meth0 (pe_meth (pe_fld (pv 0) rfl) X.cl_Tree X.m_Tree_behind.m (ok_Tree_behind X) (hr.mono (by decide)) X.m_Tree_behind.b .nil pass0 (pa_cons (pe_op op_cat (pe_ix ix_list (pe_fld (pv 0) rfl) (pv 1) (fun _ _ => rfl)) (pe_ix ix_tup (pv 4) pe_int (fun _ _ => rfl))) pa_nil)) X.cl_Tree X.m_Tree_numbers.m (ok_Tree_numbers X) (hr.mono (by decide)) X.m_Tree_numbers.b .nil pass0)))))))), ?_⟩
    refine r_hmeth X hh ?_
    refine ⟨_, rfl, _, rfl, a, r, q, s, rfl, ⟨dx, vb, rr, as, hh⟩, fun H1 v1 s1 r1 => ?_⟩
    obtain ⟨p1, rfl, e1, fp1⟩ := r1
    have h1 := hh.same s1
    rcases rows_cases g r q with ⟨e, ef, eo⟩ | ⟨ef, t, n, m, ra, rb, et, rfl, rfl, hn, hm, hnm, ea, eb, eo⟩
    · rw [ef] at e1
      rw [st_merge, eo] at k
      refine ⟨_, rfl, _, _, rfl, .inl (SqL.of e1), _, _, rfl, rfl, _, rfl, ?_⟩
      refine ifT rfl ?_
      exact ⟨_, rfl, k H1 _ (hh.offS s1) ⟨dx, vb, rr, as, h1⟩ ⟨p1, rfl, e1, fp1⟩⟩
    rw [ef] at e1
    rw [st_merge, eo] at k
    refine ⟨_, rfl, _, _, rfl, .inl (SqL.of e1), _, _, rfl, rfl, _, rfl, ?_⟩
    refine ifF rfl ?_
    obtain ⟨la, oka, ua, eua⟩ := g.row t et ra (List.mem_of_getElem? ea)
    obtain ⟨lb, okb, ub, eub⟩ := g.row t et rb (List.mem_of_getElem? eb)
    have tk := g.tk t et
    obtain ⟨b1, eb1, hb1⟩ := h1.row et ea
    obtain ⟨b2, eb2, hb2⟩ := h1.row et eb
    have i1 : atI (as.map V.ref) ((n : Nat) : Int) = some (.ref b1) := atI_nat (by rw [List.getElem?_map, eb1]; rfl)
    have i2 : atI (as.map V.ref) ((m : Nat) : Int) = some (.ref b2) := atI_nat (by rw [List.getElem?_map, eb2]; rfl)
    refine r_hrows X h1 ?_
    refine ⟨_, rfl, _, _, _, _, rfl, rfl, SqL.of h1.rows, i1, ?_⟩
    refine r_hrows X h1 ?_
    refine ⟨_, rfl, _, _, _, _, rfl, rfl, SqL.of h1.rows, i2, ?_⟩
    refine ⟨b1, b2, ra, rb, rfl, hb1, hb2, oka, okb, by omega, by omega, fun H2 v2 s2 r2 => ?_⟩
    have s02 := s1.trans s2
    have h2 := h1.same s2
    cases em : rowsMerged ra rb with
    | none =>
      rw [em] at r2 k
      cases (show v2 = .non from r2)
      refine ⟨_, rfl, _, rfl, ?_⟩
      refine ifT rfl ?_
      refine ⟨(by show 1 ≤ sizeLine; decide), fun p np => ?_⟩
      exact k _ _ (hh.offS (s02.trans (same_upd np))) ⟨dx, vb, rr, as, h2.same (same_upd np)⟩ ⟨p, rfl, upd_same, Same.free s02 np⟩
    | some x =>
      rw [em] at r2 k
      obtain ⟨T, c1, c2, rfl, eT, hc1, hc2⟩ := r2
      obtain ⟨ok1, ok2, l1, l2⟩ := rm_ok em oka okb
      refine ⟨_, rfl, _, rfl, ?_⟩
      refine ifF rfl ?_
      obtain ⟨u, eu⟩ := merged_on em tk.srt eua eub
      obtain ⟨bt, rfl, dxt, d, kvs, ht⟩ := h2.tree et
      have tku := apa_ok tk (ss := ra ++ x.1) (fun s hs => by
        rcases List.mem_append.mp hs with hs | hs
        · exact oka s hs
        · exact ok1 s hs) eu
      rw [List.length_append] at tku
      refine ⟨(by show 1 ≤ sizeLine; decide), fun p3 n3 => ?_⟩
      refine alloc n3 fun H3 s3 e3 => ?_
      refine r_hbase X (h2.same s3) ?_
      refine ⟨bt, dxt, _, rfl, (ht.same s3).ins, fT_no (by decide +kernel), ?_⟩
      refine r_hrows X (h2.same s3) ?_
      refine ⟨_, rfl, _, _, _, _, rfl, rfl, SqL.of (h2.same s3).rows, i1, ?_⟩
      obtain ⟨as1, ea1, has1⟩ := (hb1.same s2).same s3
      obtain ⟨cs1, ec1, hcs1⟩ := hc1.same s3
      refine ⟨_, rfl, _, _, _, _, rfl, rfl, SqT.of (s3 _ _ eT), rfl, ?_⟩
      refine ⟨_, _, _, _, rfl, rfl, ea1, ec1, line_le (by rw [List.length_map, List.length_map, has1.len, hcs1.len]; omega), fun p4 n4 => ?_⟩
      refine alloc n4 fun H4 s4 e4 => ?_
      have s24 := s3.trans s4
      refine ⟨bt, p4, ra ++ x.1, t, u, rfl, ⟨dxt, d, kvs, ht.same s24⟩, row_app e4 (steps_same has1 s4) (steps_same hcs1 s4), fun s hs => by
        rcases List.mem_append.mp hs with hs | hs
        · exact oka s hs
        · exact ok1 s hs, by rw [List.length_append]; omega, tk.mono (by decide), eu, fun H5 v5 s5 r5 => ?_⟩
      obtain ⟨c, rfl, dxc, dc, kc, hc⟩ := r5
      refine ⟨c, dxc, _, rfl, hc.ins, fT_no (by decide +kernel), ?_⟩
      refine ⟨c, u, rfl, ⟨dxc, dc, kc, hc⟩, tku.mono (by omega), fun H6 v6 s6 r6 => ?_⟩
      obtain ⟨p6, rfl, e6, _⟩ := r6
      have s36 := (s4.trans s5).trans s6
      refine ⟨_, _, _, _, rfl, rfl, s36 _ _ e3, e6, line_le (by
        have := tree_len tku (by omega)
        simp only [List.length_map, List.length_cons, List.length_nil]
        omega), fun p7 n7 => ?_⟩
      refine alloc n7 fun H7 s7 e7 => ?_
      refine k H7 _ (hh.offS (((s02.trans s3).trans s36).trans s7)) ⟨dx, _, rr, as, h2.same ((s3.trans s36).trans s7)⟩ ⟨p7, rfl, ?_, Same.free ((s02.trans s3).trans s36) n7⟩
      rw [e7]
      show _ = some (HO.lst ((1 :: Vapatd.treeTold t (ra ++ x.1)).map V.int))
      rw [told_some eu]
      rfl
def sp_House_sides (X : Txt K mg) : Sp := fun vs H Q _ => ∃ (a : Addr) (r q : Int) (s : HSt), vs = [.ref a, .int r, .int q] ∧ HouseAt X H a s ∧ Good s ∧ PostH X H a Q (Vapatd.step s (.sides r q))
theorem ok_House_sides (X : Txt K mg) : FnOk P w K mg base CX0 10 X.m_House_sides.f X.m_House_sides.fd ["self", "one", "other"] (sp_House_sides X) := by
  refine X.m_House_sides.F.ok sc_House_sides (fun vs H Q E h => ?_) (fun cdv A outer s0 H vs Q E hr h => ?_)
  · obtain ⟨a, r, q, s, rfl, _⟩ := h
    rfl
  · obtain ⟨a, r, q, s, rfl, ⟨dx, vb, rr, as, hh⟩, g, k⟩ := h
    refine ⟨_, (pss_cons (ps_set (i := 3) sc_House_sides.nd rfl (.inl rfl) (pe_meth (pv 0) X.cl_House X.m_House_pair_fault.m (ok_House_pair_fault X) (hr.mono (by decide)) X.m_House_pair_fault.b .nil pass0 (pa_cons (pv 1) (pa_cons (pv 2) pa_nil))))
        (pss_cons (ps_if (pt_cmpR op_gt (pe_callB call_len_seq (by rfl) X.b_len (by decide +kernel) (pa_cons (pv 3) pa_nil)) pe_int (nomark _)) (pss_one (ps_ret (pv 3))) pss_nil)
        (pss_cons (ps_set (i := 4) sc_House_sides.nd rfl (.inl rfl) (pe_call (ok_merged X) (hr.mono (by decide)) rfl X.d_merged.g X.d_merged.F.kp X.d_merged.b .nil pass0 (pa_cons (pe_ix ix_list (pe_fld (pv 0) rfl) (pv 1) (fun _ _ => rfl)) (pa_cons (pe_ix ix_list (pe_fld (pv 0) rfl) (pv 2) (fun _ _ => rfl)) pa_nil))))
        (pss_cons (ps_if (pt_cmp (pc_isN (pv 4)) rfl) (pss_one (ps_ret (pe_lst (pa_cons pe_int pa_nil)))) pss_nil)
        (pss_one (ps_ret (pe_op op_cat (pe_op op_cat (pe_lst (pa_cons pe_int pa_nil)) (pe_call (ok_row_numbers X) (hr.mono (by decide)) rfl X.d_row_numbers.g X.d_row_numbers.F.kp X.d_row_numbers.b .nil pass0 (pa_cons (pe_ix ix_tup (pv 4) pe_int (fun _ _ => rfl)) pa_nil))) (pe_call (ok_row_numbers X) (hr.mono (by decide)) rfl X.d_row_numbers.g X.d_row_numbers.F.kp X.d_row_numbers.b .nil pass0 (pa_cons (pe_ix ix_tup (pv 4) pe_int (fun _ _ => rfl)) pa_nil))))))))), ?_⟩
    refine r_hmeth X hh ?_
    refine ⟨_, rfl, _, rfl, a, r, q, s, rfl, ⟨dx, vb, rr, as, hh⟩, fun H1 v1 s1 r1 => ?_⟩
    obtain ⟨p1, rfl, e1, fp1⟩ := r1
    have h1 := hh.same s1
    rcases rows_cases g r q with ⟨e, ef, eo⟩ | ⟨ef, t, n, m, ra, rb, et, rfl, rfl, hn, hm, hnm, ea, eb, eo⟩
    · rw [ef] at e1
      rw [st_sides, eo] at k
      refine ⟨_, rfl, _, _, rfl, .inl (SqL.of e1), _, _, rfl, rfl, _, rfl, ?_⟩
      refine ifT rfl ?_
      exact ⟨_, rfl, k H1 _ (hh.offS s1) ⟨dx, vb, rr, as, h1⟩ ⟨p1, rfl, e1, fp1⟩⟩
    rw [ef] at e1
    rw [st_sides, eo] at k
    refine ⟨_, rfl, _, _, rfl, .inl (SqL.of e1), _, _, rfl, rfl, _, rfl, ?_⟩
    refine ifF rfl ?_
    obtain ⟨la, oka, ua, eua⟩ := g.row t et ra (List.mem_of_getElem? ea)
    obtain ⟨lb, okb, ub, eub⟩ := g.row t et rb (List.mem_of_getElem? eb)
    have tk := g.tk t et
    obtain ⟨b1, eb1, hb1⟩ := h1.row et ea
    obtain ⟨b2, eb2, hb2⟩ := h1.row et eb
    have i1 : atI (as.map V.ref) ((n : Nat) : Int) = some (.ref b1) := atI_nat (by rw [List.getElem?_map, eb1]; rfl)
    have i2 : atI (as.map V.ref) ((m : Nat) : Int) = some (.ref b2) := atI_nat (by rw [List.getElem?_map, eb2]; rfl)
    refine r_hrows X h1 ?_
    refine ⟨_, rfl, _, _, _, _, rfl, rfl, SqL.of h1.rows, i1, ?_⟩
    refine r_hrows X h1 ?_
    refine ⟨_, rfl, _, _, _, _, rfl, rfl, SqL.of h1.rows, i2, ?_⟩
    refine ⟨b1, b2, ra, rb, rfl, hb1, hb2, oka, okb, by omega, by omega, fun H2 v2 s2 r2 => ?_⟩
    have s02 := s1.trans s2
    have h2 := h1.same s2
    cases em : rowsMerged ra rb with
    | none =>
      rw [em] at r2 k
      cases (show v2 = .non from r2)
      refine ⟨_, rfl, _, rfl, ?_⟩
      refine ifT rfl ?_
      refine ⟨(by show 1 ≤ sizeLine; decide), fun p np => ?_⟩
      exact k _ _ (hh.offS (s02.trans (same_upd np))) ⟨dx, vb, rr, as, h2.same (same_upd np)⟩ ⟨p, rfl, upd_same, Same.free s02 np⟩
    | some x =>
      rw [em] at r2 k
      obtain ⟨T, c1, c2, rfl, eT, hc1, hc2⟩ := r2
      obtain ⟨ok1, ok2, l1, l2⟩ := rm_ok em oka okb
      refine ⟨_, rfl, _, rfl, ?_⟩
      refine ifF rfl ?_
      refine ⟨(by show 1 ≤ sizeLine; decide), fun p3 n3 => ?_⟩
      refine alloc n3 fun H3 s3 e3 => ?_
      refine ⟨_, rfl, _, _, _, _, rfl, rfl, SqT.of (s3 _ _ eT), rfl, ?_⟩
      refine ⟨c1, x.1, rfl, hc1.same s3, ok1, by omega, fun H4 v4 s4 r4 => ?_⟩
      obtain ⟨p4, rfl, e4, _⟩ := r4
      have f1 := fsteps_len ok1
      have f2 := fsteps_len ok2
      refine ⟨_, _, _, _, rfl, rfl, s4 _ _ e3, e4, line_le (by simp only [List.length_map, List.length_cons, List.length_nil]; omega), fun p5 n5 => ?_⟩
      refine alloc n5 fun H5 s5 e5 => ?_
      have s25 := (s3.trans s4).trans s5
      refine ⟨_, rfl, _, _, _, _, rfl, rfl, SqT.of (s25 _ _ eT), rfl, ?_⟩
      refine ⟨c2, x.2, rfl, hc2.same s25, ok2, by omega, fun H6 v6 s6 r6 => ?_⟩
      obtain ⟨p6, rfl, e6, _⟩ := r6
      refine ⟨_, _, _, _, rfl, rfl, s6 _ _ e5, e6, line_le (by simp only [List.length_map, List.length_cons, List.length_nil, List.length_append]; omega), fun p7 n7 => ?_⟩
      refine alloc n7 fun H7 s7 e7 => ?_
      refine k H7 _ (hh.offS (((s02.trans s25).trans s6).trans s7)) ⟨dx, _, rr, as, h2.same ((s25.trans s6).trans s7)⟩ ⟨p7, rfl, ?_, Same.free ((s02.trans s25).trans s6) n7⟩
      rw [e7]
      simp
def sp_House_pull (X : Txt K mg) : Sp := fun vs H Q _ => ∃ (a : Addr) (r q : Int) (s : HSt), vs = [.ref a, .int r, .int q] ∧ HouseAt X H a s ∧ Good s ∧ PostH X H a Q (Vapatd.step s (.pull r q))
theorem ok_House_pull (X : Txt K mg) : FnOk P w K mg base CX0 10 X.m_House_pull.f X.m_House_pull.fd ["self", "one", "other"] (sp_House_pull X) := by
  refine X.m_House_pull.F.ok sc_House_pull (fun vs H Q E h => ?_) (fun cdv A outer s0 H vs Q E hr h => ?_)
  · obtain ⟨a, r, q, s, rfl, _⟩ := h
    rfl
  · obtain ⟨a, r, q, s, rfl, ⟨dx, vb, rr, as, hh⟩, g, k⟩ := h
    refine ⟨_, (pss_cons (ps_set (i := 3) sc_House_pull.nd rfl (.inl rfl) (pe_meth (pv 0) X.cl_House X.m_House_pair_fault.m (ok_House_pair_fault X) (hr.mono (by decide)) X.m_House_pair_fault.b .nil pass0 (pa_cons (pv 1) (pa_cons (pv 2) pa_nil))))
        (pss_cons (ps_if (pt_cmpR op_gt (pe_callB call_len_seq (by rfl) X.b_len (by decide +kernel) (pa_cons (pv 3) pa_nil)) pe_int (nomark _)) (pss_one (ps_ret (pv 3))) pss_nil)
        (pss_cons (ps_set (i := 4) sc_House_pull.nd rfl (.inl rfl) (pe_call (ok_merged X) (hr.mono (by decide)) rfl X.d_merged.g X.d_merged.F.kp X.d_merged.b .nil pass0 (pa_cons (pe_ix ix_list (pe_fld (pv 0) rfl) (pv 1) (fun _ _ => rfl)) (pa_cons (pe_ix ix_list (pe_fld (pv 0) rfl) (pv 2) (fun _ _ => rfl)) pa_nil))))
        (pss_cons (ps_if (pt_cmp (pc_isN (pv 4)) rfl) (pss_one (ps_ret (pe_lst (pa_cons (pe_glob (v := .int (-7)) rfl X.c_CANT_BE.h ⟨_, rfl⟩) pa_nil)))) pss_nil)
        (pss_cons (ps_if (pt_cmpR op_gt (pe_op op_add (pe_callB call_len_seq (by rfl) X.b_len (by decide +kernel) (pa_cons (pe_ix ix_list (pe_fld (pv 0) rfl) (pv 1) (fun _ _ => rfl)) pa_nil)) (pe_callB call_len_seq (by rfl) X.b_len (by decide +kernel) (pa_cons (pe_ix ix_list (pe_fld (pv 0) rfl) (pv 2) (fun _ _ => rfl)) pa_nil))) (pe_glob (v := .int 24) rfl X.c_MOST_PULLED.h ⟨_, rfl⟩) (nomark _)) (pss_one (ps_ret (pe_lst (pa_cons (pe_glob (v := .int (-6)) rfl X.c_TOO_MANY.h ⟨_, rfl⟩) pa_nil)))) pss_nil)
        (pss_cons (ps_expr (pe_meth (pv 0) X.cl_House X.m_House_put_row.m (ok_House_put_row X) (hr.mono (by decide)) X.m_House_put_row.b .nil pass0 (pa_cons (pv 1) (pa_cons (pe_op op_cat (pe_ix ix_list (pe_fld (pv 0) rfl) (pv 1) (fun _ _ => rfl)) (pe_ix ix_tup (pv 4) pe_int (fun _ _ => rfl))) pa_nil))))
        (pss_one (ps_ret (pe_lst (pa_cons (pe_callB call_len_seq (by rfl) X.b_len (by decide +kernel) (pa_cons (pe_ix ix_list (pe_fld (pv 0) rfl) (pv 1) (fun _ _ => rfl)) pa_nil)) pa_nil)))))))))), ?_⟩
    refine r_hmeth X hh ?_
    refine ⟨_, rfl, _, rfl, a, r, q, s, rfl, ⟨dx, vb, rr, as, hh⟩, fun H1 v1 s1 r1 => ?_⟩
    obtain ⟨p1, rfl, e1, fp1⟩ := r1
    have h1 := hh.same s1
    rcases rows_cases g r q with ⟨e, ef, eo⟩ | ⟨ef, t, n, m, ra, rb, et, rfl, rfl, hn, hm, hnm, ea, eb, eo⟩
    · rw [ef] at e1
      rw [st_pull, eo] at k
      refine ⟨_, rfl, _, _, rfl, .inl (SqL.of e1), _, _, rfl, rfl, _, rfl, ?_⟩
      refine ifT rfl ?_
      exact ⟨_, rfl, k H1 _ (hh.offS s1) ⟨dx, vb, rr, as, h1⟩ ⟨p1, rfl, e1, fp1⟩⟩
    rw [ef] at e1
    rw [st_pull, eo] at k
    refine ⟨_, rfl, _, _, rfl, .inl (SqL.of e1), _, _, rfl, rfl, _, rfl, ?_⟩
    refine ifF rfl ?_
    obtain ⟨la, oka, ua, eua⟩ := g.row t et ra (List.mem_of_getElem? ea)
    obtain ⟨lb, okb, ub, eub⟩ := g.row t et rb (List.mem_of_getElem? eb)
    have tk := g.tk t et
    obtain ⟨b1, eb1, hb1⟩ := h1.row et ea
    obtain ⟨b2, eb2, hb2⟩ := h1.row et eb
    have i1 : atI (as.map V.ref) ((n : Nat) : Int) = some (.ref b1) := atI_nat (by rw [List.getElem?_map, eb1]; rfl)
    have i2 : atI (as.map V.ref) ((m : Nat) : Int) = some (.ref b2) := atI_nat (by rw [List.getElem?_map, eb2]; rfl)
    refine r_hrows X h1 ?_
    refine ⟨_, rfl, _, _, _, _, rfl, rfl, SqL.of h1.rows, i1, ?_⟩
    refine r_hrows X h1 ?_
    refine ⟨_, rfl, _, _, _, _, rfl, rfl, SqL.of h1.rows, i2, ?_⟩
    refine ⟨b1, b2, ra, rb, rfl, hb1, hb2, oka, okb, by omega, by omega, fun H2 v2 s2 r2 => ?_⟩
    have s02 := s1.trans s2
    have h2 := h1.same s2
    cases em : rowsMerged ra rb with
    | none =>
      rw [em] at r2 k
      cases (show v2 = .non from r2)
      refine ⟨_, rfl, _, rfl, ?_⟩
      refine ifT rfl ?_
      refine ⟨(by show 1 ≤ sizeLine; decide), fun p np => ?_⟩
      exact k _ _ (hh.offS (s02.trans (same_upd np))) ⟨dx, vb, rr, as, h2.same (same_upd np)⟩ ⟨p, rfl, upd_same, Same.free s02 np⟩
    | some x =>
      rw [em] at r2 k
      obtain ⟨T, c1, c2, rfl, eT, hc1, hc2⟩ := r2
      obtain ⟨ok1, ok2, l1, l2⟩ := rm_ok em oka okb
      refine ⟨_, rfl, _, rfl, ?_⟩
      refine ifF rfl ?_
      obtain ⟨as1, ea1, has1⟩ := hb1.same s2
      obtain ⟨as2, ea2, has2⟩ := hb2.same s2
      have la1 : as1.length = ra.length := has1.len
      have la2 : as2.length = rb.length := has2.len
      refine r_hrows X h2 ?_
      refine ⟨_, rfl, _, _, _, _, rfl, rfl, SqL.of h2.rows, i1, ?_⟩
      refine ⟨_, _, rfl, .inl (SqL.of ea1), ?_⟩
      refine r_hrows X h2 ?_
      refine ⟨_, rfl, _, _, _, _, rfl, rfl, SqL.of h2.rows, i2, ?_⟩
      refine ⟨_, _, rfl, .inl (SqL.of ea2), _, _, rfl, rfl, _, _, rfl, rfl, _, rfl, ?_⟩
      rw [List.length_map, List.length_map, la1, la2]
      by_cases c : Vapatd.LONG < ra.length + rb.length
      · simp only at k
        rw [if_pos c] at k
        refine ifT (decide_eq_true (by unfold Vapatd.LONG at c; omega)) ?_
        refine ⟨(by show 1 ≤ sizeLine; decide), fun p np => ?_⟩
        exact k _ _ (hh.offS (s02.trans (same_upd np))) ⟨dx, vb, rr, as, h2.same (same_upd np)⟩ ⟨p, rfl, upd_same, Same.free s02 np⟩
      · simp only at k
        rw [if_neg c] at k
        refine ifF (decide_eq_false (by unfold Vapatd.LONG at c; omega)) ?_
        obtain ⟨cs1, ec1, hcs1⟩ := hc1
        refine r_hmeth X h2 ?_
        refine ⟨_, rfl, ?_⟩
        refine r_hrows X h2 ?_
        refine ⟨_, rfl, _, _, _, _, rfl, rfl, SqL.of h2.rows, i1, ?_⟩
        refine ⟨_, rfl, _, _, _, _, rfl, rfl, SqT.of eT, rfl, ?_⟩
        refine ⟨_, _, _, _, rfl, rfl, ea1, ec1, line_le (by rw [List.length_map, List.length_map, has1.len, hcs1.len]; omega), fun p3 n3 => ?_⟩
        refine alloc n3 fun H3 s3 e3 => ?_
        refine ⟨a, p3, n, t, ra ++ x.1, s, rfl, ⟨dx, vb, rr, as, h2.same s3⟩, et, g.len t et, hn, row_app e3 (steps_same has1 s3) (steps_same hcs1 s3), fun H4 o4 k4 h4 => ?_⟩
        have h4' := h4
        obtain ⟨dx4, vb4, rr4, as4, h4⟩ := h4
        have er4 : (s.rows.set n (ra ++ x.1))[n]? = some (ra ++ x.1) := by
          rw [List.getElem?_set_self]
          exact (List.getElem?_eq_some_iff.mp ea).1
        obtain ⟨b4, eb4, as5, ea5, has5⟩ := h4.row et er4
        refine r_hrows X h4 ?_
        refine ⟨_, rfl, _, _, _, _, rfl, rfl, SqL.of h4.rows, atI_nat (by rw [List.getElem?_map, eb4]; rfl), ?_⟩
        refine ⟨_, _, rfl, .inl (SqL.of ea5), (by show 1 ≤ sizeLine; decide), fun p np => ?_⟩
        refine k _ _ (offS_put hh (s02.trans s3) (s02.free n3) o4 k4 h4' (same_upd np)) ⟨dx4, vb4, rr4, as4, h4.same (same_upd np)⟩ ⟨p, rfl, ?_, off_free ((Same.off a (s02.trans s3)).trans o4) h4.ins np⟩
        rw [upd_same, List.length_map, has5.len, List.length_append, l1]
        rfl
end
end Rw

/-! part RwAll -/
set_option Elab.async false
set_option linter.all false
set_option maxRecDepth 100000
set_option maxHeartbeats 4000000
namespace Rw
open PySem PySem.Spec PyProof.Rows L2
open VapatBase (Tokens)
/-! The house: many rows, two steps; plain lemmas. -/
open VapatBase (applied appliedAll fileIn flatSteps flatTree)
open Vapatd (State rowsMerged allConflicts allMerged once)
open RM (stepOf treeOf)
theorem nodup_few {n : Nat} {es : List Int} (h : es.Nodup) (b : ∀ k ∈ es, 0 ≤ k ∧ k < (n : Int)) : es.length ≤ n := by
  have hF : (((List.range n).map Int.ofNat).filter fun k => decide (k ∈ es)).Nodup := by
    refine List.Pairwise.filter _ ?_
    rw [List.pairwise_map]
    refine List.Pairwise.imp (R := fun x y => x < y) (fun {x y} h e => ?_) List.pairwise_lt_range
    have := Int.ofNat.inj e
    omega
  have p := (List.perm_ext_iff_of_nodup h hF).mpr fun k => by
    rw [List.mem_filter, decide_eq_true_eq]
    refine ⟨fun hk => ⟨?_, hk⟩, fun hk => hk.2⟩
    have := b k hk
    refine List.mem_map.mpr ⟨k.toNat, List.mem_range.mpr (by omega), ?_⟩
    show ((k.toNat : Nat) : Int) = k
    omega
  rw [p.length_eq]
  refine Nat.le_trans (List.length_filter_le _ _) ?_
  rw [List.length_map, List.length_range]
  exact Nat.le_refl _
theorem sorted_sameI : ∀ {l m : List Int}, l.Pairwise (· < ·) → m.Pairwise (· < ·) → (∀ x, x ∈ l ↔ x ∈ m) → l = m
  | [], [], _, _, _ => rfl
  | [], y :: m, _, _, h => by simpa using (h y).mpr List.mem_cons_self
  | x :: l, [], _, _, h => by simpa using (h x).mp List.mem_cons_self
  | x :: l, y :: m, hl, hm, h => by
    rw [List.pairwise_cons] at hl hm
    have e : x = y := by
      have h1 := (h x).mp List.mem_cons_self
      have h2 := (h y).mpr List.mem_cons_self
      rcases List.mem_cons.mp h1 with e | h1
      · exact e
      · rcases List.mem_cons.mp h2 with e | h2
        · exact e.symm
        · have := hl.1 _ h2
          have := hm.1 _ h1
          omega
    subst e
    congr 1
    refine sorted_sameI hl.2 hm.2 fun z => ?_
    have hz := h z
    constructor
    · intro hq
      rcases List.mem_cons.mp (hz.mp (List.mem_cons_of_mem _ hq)) with e | hq'
      · have := hl.1 _ hq
        omega
      · exact hq'
    · intro hq
      rcases List.mem_cons.mp (hz.mpr (List.mem_cons_of_mem _ hq)) with e | hq'
      · have := hm.1 _ hq
        omega
      · exact hq'
theorem inV_ints (n : Int) (l : List Int) : inV (.int n) (l.map V.int) = l.contains n := by
  unfold inV
  rw [List.any_map]
  rw [Bool.eq_iff_iff, List.any_eq_true, List.contains_iff_mem]
  constructor
  · rintro ⟨x, hx, e⟩
    have : x = n := eq_of_beq (show (x == n) = true from e)
    rw [← this]
    exact hx
  · intro h
    exact ⟨n, h, show (n == n) = true from beq_self_eq_true _⟩
theorem ints_flat : ∀ (l : List Int), (l.map V.int).all flatV = true
  | [] => rfl
  | _ :: l => ints_flat l
/-- rows that may be merged one after the other -/
def ROk (l : List Int) : Prop := (∀ z ∈ l, 0 ≤ z ∧ z < 4) ∧ l.Nodup
instance (l : List Int) : Decidable (ROk l) := inferInstanceAs (Decidable (_ ∧ _))
def rowI (s : HSt) (z : Int) : List St' := (s.rows[z.toNat]?).getD []
theorem once_go : ∀ (l k : List Nat), (l.foldl (fun k x => if k.contains x then k else k ++ [x]) k).length ≤ k.length + l.length ∧ ((l.foldl (fun k x => if k.contains x then k else k ++ [x]) k).length = k.length + l.length ↔ l.Nodup ∧ ∀ x ∈ l, x ∉ k)
  | [], k => by simp
  | x :: l, k => by
    simp only [List.foldl_cons, List.length_cons]
    by_cases c : k.contains x = true
    · rw [if_pos c]
      obtain ⟨h1, h2⟩ := once_go l k
      refine ⟨by omega, ?_⟩
      constructor
      · intro h
        omega
      · rintro ⟨_, h⟩
        exact (h x List.mem_cons_self (by simpa using c)).elim
    · rw [if_neg c]
      obtain ⟨h1, h2⟩ := once_go l (k ++ [x])
      rw [List.length_append, List.length_singleton] at h1 h2
      refine ⟨by omega, ?_⟩
      have c' : x ∉ k := by simpa using c
      rw [show k.length + (l.length + 1) = k.length + 1 + l.length by omega, h2, List.nodup_cons]
      constructor
      · rintro ⟨a, b⟩
        refine ⟨⟨fun hx => b x hx (by simp), a⟩, fun y hy => ?_⟩
        rcases List.mem_cons.mp hy with rfl | hy
        · exact c'
        · exact fun h => b y hy (by simp [h])
      · rintro ⟨⟨a, b⟩, d⟩
        refine ⟨b, fun y hy h => ?_⟩
        rcases List.mem_append.mp h with h | h
        · exact d y (List.mem_cons_of_mem _ hy) h
        · rw [List.mem_singleton.mp h] at hy
          exact a hy
theorem once_iff (l : List Nat) : (once l).length = l.length ↔ l.Nodup := by
  have := (once_go l []).2
  unfold once
  rw [List.length_nil, Nat.zero_add] at this
  rw [this]
  simp
theorem nodup_nat : ∀ {l : List Int}, (∀ z ∈ l, 0 ≤ z) → ((l.map Int.toNat).Nodup ↔ l.Nodup)
  | [], _ => by simp
  | x :: l, h => by
    rw [List.map_cons, List.nodup_cons, List.nodup_cons, nodup_nat (fun z hz => h z (List.mem_cons_of_mem _ hz))]
    have : x.toNat ∈ l.map Int.toNat ↔ x ∈ l := by
      rw [List.mem_map]
      constructor
      · rintro ⟨y, hy, e⟩
        have h1 := h x List.mem_cons_self
        have h2 := h y (List.mem_cons_of_mem _ hy)
        have : y = x := by omega
        rw [← this]
        exact hy
      · intro hx
        exact ⟨x, hx, rfl⟩
    rw [this]
theorem mapM_rows {s : HSt} {t : Tr'} (g : Good s) (et : s.tree = some t) : ∀ (l : List Int), (∀ z ∈ l, 0 ≤ z ∧ z < 4) → l.mapM (Vapatd.rowOf s) = some (l.map fun z => (z.toNat, rowI s z))
  | [], _ => rfl
  | z :: l, h => by
    obtain ⟨row, e1, e2⟩ := row_of g et (h z List.mem_cons_self)
    rw [List.mapM_cons, e2, mapM_rows g et l fun y hy => h y (List.mem_cons_of_mem _ hy)]
    have : rowI s z = row := by
      unfold rowI
      rw [e1]
      rfl
    rw [List.map_cons, this]
    rfl
theorem mapM_no {s : HSt} : ∀ (l : List Int), (∃ z ∈ l, ¬ (0 ≤ z ∧ z < 4)) → l.mapM (Vapatd.rowOf s) = none
  | [], h => by
    obtain ⟨_, h, _⟩ := h
    cases h
  | z :: l, h => by
    rw [List.mapM_cons]
    by_cases c : 0 ≤ z ∧ z < 4
    · have : ∃ z ∈ l, ¬ (0 ≤ z ∧ z < 4) := by
        obtain ⟨y, hy, n⟩ := h
        rcases List.mem_cons.mp hy with rfl | hy
        · exact (n c).elim
        · exact ⟨y, hy, n⟩
      rw [mapM_no l this]
      cases Vapatd.rowOf s z <;> rfl
    · rw [row_no c]
      rfl
theorem rowsOf_is {s : HSt} {t : Tr'} (g : Good s) (et : s.tree = some t) (l : List Int) : Vapatd.rowsOf s l = if ROk l then some (l.map (rowI s)) else none := by
  unfold Vapatd.rowsOf
  by_cases c : ∀ z ∈ l, 0 ≤ z ∧ z < 4
  · rw [mapM_rows g et l c]
    simp only [Option.bind_some, List.map_map, List.length_map]
    have e : ((fun y : Nat × List St' => y.1) ∘ fun z : Int => (z.toNat, rowI s z)) = Int.toNat := rfl
    have e2 : ((fun y : Nat × List St' => y.2) ∘ fun z : Int => (z.toNat, rowI s z)) = rowI s := rfl
    rw [e, e2]
    have h := (once_iff (l.map Int.toNat)).trans (nodup_nat fun z hz => (c z hz).1)
    rw [List.length_map] at h
    by_cases d : l.Nodup
    · rw [if_pos (h.mpr d), if_pos ⟨c, d⟩]
    · rw [if_neg (fun q => d (h.mp q)), if_neg (fun q => d q.2)]
  · rw [mapM_no l (by
      refine Classical.byContradiction fun n => c fun z hz => Classical.byContradiction fun q => n ⟨z, hz, q⟩), if_neg (fun q => c q.1)]
    rfl
theorem one_one (x y : St') : rowsMerged [x] [y] = (Vapatd.merged x y).map fun z => ([z.1], [z.2]) := by
  unfold rowsMerged Vapatd.merged
  have e : VapatBase.turnedAll [x] = [VapatBase.turned x] := rfl
  rw [e]
  simp only [Vapatb.rowsCommuted, Vapatb.aheadOf]
  cases VapatBase.commuted (VapatBase.turned x) y with
  | none => rfl
  | some r => rfl
section
variable {P : Program} {w : World} {K : PySem.W.Frag} {mg : Str → Option Value} {base : Heap}
def sp_House_are_rows (X : Txt K mg) : Sp := fun vs H Q _ => ∃ (a n : Addr) (l : List Int), vs = [.ref a, .ref n] ∧ SqL K H n (l.map V.int) ∧ l.length ≤ 1000 ∧ ∀ H' : Hp, Same H H' → Q (.bl (decide (ROk l))) H'
theorem ok_House_are_rows (X : Txt K mg) : FnOk P w K mg base CX0 1 X.m_House_are_rows.f X.m_House_are_rows.fd ["self", "numbers"] (sp_House_are_rows X) := by
  refine X.m_House_are_rows.F.ok sc_House_are_rows (fun vs H Q E h => ?_) (fun cdv A outer s0 H vs Q E hr h => ?_)
  · obtain ⟨a, n, l, rfl, _⟩ := h
    rfl
  · obtain ⟨a, n, l, rfl, hN, ln, k⟩ := h
    refine ⟨_, (pss_cons (ps_for PassesOwn.never rfl (pi_enum (by rfl) X.b_enumerate (pa_cons (pv 1) pa_nil)) (pg_tup rfl (pgs_cons (pg_name (i := 2) sc_House_are_rows.nd rfl (.inl rfl)) (pgs_cons (pg_name (i := 3) sc_House_are_rows.nd rfl (.inl rfl)) pgs_nil))) (pss_one (ps_if (PW.pt (pw_or (pt_not (pt_chain op_le op_lt pe_int (pv 3) (pe_glob (v := .int 4) rfl X.c_ROWS_house.h ⟨_, rfl⟩))) (pw_or1 (pt_cmpR op_in_seq (pv 3) (pe_slice sl_list (pv 1) po_none (po_some (pv 2))) (by rfl))))) (pss_one (ps_ret pe_bl)) pss_nil)))
        (pss_one (ps_ret pe_bl))), ?_⟩
    refine ⟨_, rfl, n, _, rfl, hN, ?_⟩
    refine for_it walk_enum (fun i σ H' => ∃ (v2 v3 : Option V), σ = [some (.ref a), some (.ref n), v2, v3] ∧ Same H H' ∧ ROk (l.take i)) ⟨none, none, rfl, Same.refl H, ⟨fun _ h => (nomatch h), List.nodup_nil⟩⟩ (fun i σ H' _ ⟨_, _, _, s1, _⟩ => s1.seq hN) ?_ ?_
    · rintro i x σ H1 H2 hi ⟨v2, v3, rfl, s1, ok⟩ ⟨T, x1, x2, rfl, nT, rfl, hx1, hx2⟩
      cases hx1
      obtain ⟨z, hz, rfl⟩ := map_get hx2
      have hlt := (List.getElem?_eq_some_iff.mp hz).1
      have s12 : Same H1 (upd H1 T (.tup [.int ((i : Nat) : Int), .int z])) := same_upd nT
      have eT : (upd H1 T (.tup [.int ((i : Nat) : Int), .int z])) T = some (.tup [.int ((i : Nat) : Int), .int z]) := upd_same
      generalize upd H1 T (.tup [.int ((i : Nat) : Int), .int z]) = H2 at s12 eT
      have s02 := s1.trans s12
      have et := RM.take_more hz
      have bad1 : ¬ (0 ≤ z ∧ z < 4) → ¬ ROk l := fun n q => n (q.1 z (List.mem_of_getElem? hz))
      have bad2 : z ∈ l.take i → ¬ ROk l := fun m q => by
        have := q.2.sublist (List.take_sublist (i + 1) l)
        rw [et, List.nodup_append] at this
        exact this.2.2 z m z (by simp) rfl
      refine ⟨T, _, rfl, SqT.of eT, rfl, _, _, rfl, _, _, rfl, rfl, ?_⟩
      refine ⟨_, rfl, _, _, rfl, rfl, ?_⟩
      by_cases c2 : 0 ≤ z
      · refine ⟨_, rfl, ifT (decide_eq_true c2) ⟨_, _, rfl, rfl, _, rfl, ?_⟩⟩
        by_cases c3 : z < 4
        · refine ifF (by show (!decide (z < 4)) = false; rw [decide_eq_true c3]; rfl) ?_
          refine ⟨_, rfl, _, rfl, _, rfl, _, rfl, _, _, rfl, s02.seq hN, fun p np => ?_⟩
          rw [cut_to, ← List.map_take]
          refine alloc np fun H3 s3 e3 => ?_
          refine ⟨p, _, rfl, .inl (SqL.of e3), rfl, ints_flat _, _, rfl, ?_⟩
          rw [inV_ints]
          by_cases c4 : (l.take i).contains z = true
          · refine ifT c4 ?_
            have := k H3 (s02.trans s3)
            rw [decide_eq_false (bad2 (by simpa using c4))] at this
            exact this
          · refine ifF (by simpa using c4) ⟨_, _, rfl, s02.trans s3, ?_⟩
            rw [et]
            refine ⟨fun y hy => ?_, List.nodup_append.mpr ⟨ok.2, by simp, fun y hy w hw e => ?_⟩⟩
            · rcases List.mem_append.mp hy with hy | hy
              · exact ok.1 y hy
              · rw [List.mem_singleton.mp hy]
                exact ⟨c2, c3⟩
            · rw [List.mem_singleton.mp hw] at e
              rw [e] at hy
              exact c4 (by simpa using hy)
        · refine ifT (by show (!decide (z < 4)) = true; rw [decide_eq_false c3]; rfl) ?_
          have := k _ s02
          rw [decide_eq_false (bad1 fun q => c3 q.2)] at this
          exact this
      · refine ⟨_, rfl, ifF (decide_eq_false c2) ⟨_, rfl, ?_⟩⟩
        refine ifT rfl ?_
        have := k _ s02
        rw [decide_eq_false (bad1 fun q => c2 q.1)] at this
        exact this
    · rintro σ H1 ⟨v2, v3, rfl, s1, ok⟩
      rw [List.length_map, List.take_length] at ok
      have := k H1 s1
      rw [decide_eq_true ok] at this
      exact this
end
end Rw

/-! part RwHouse3 -/
set_option Elab.async false
set_option linter.all false
set_option maxRecDepth 100000
set_option maxHeartbeats 4000000
namespace Rw
open PySem PySem.Spec PyProof.Rows L2
open VapatBase (Tokens)
/-! The house: conflicts, what is left, many rows, two steps. -/
open VapatBase (applied appliedAll fileIn flatSteps flatTree)
open Vapatd (State rowsMerged allConflicts allMerged once conflict leftOut1 leftOut2)
open RM (stepOf treeOf)
def hflt (s : HSt) (r q : Int) : List Int := if pflt s r q = [] ∧ (8 < (rowI s r).length ∨ 8 < (rowI s q).length) then [-6] else pflt s r q
theorem held_cases {s : HSt} (g : Good s) (r q : Int) : (∃ e, hflt s r q = [e] ∧ ∀ F : Tr' → List St' → List St' → List Int, Vapatd.onRows s r q (fun t _ a b => (s, if Vapatd.ROW < a.length ∨ Vapatd.ROW < b.length then [-6] else F t a b)) = (s, [e])) ∨
    (hflt s r q = [] ∧ ∃ (t : Tr') (k j : Nat) (a b : List St'), s.tree = some t ∧ r = (k : Int) ∧ q = (j : Int) ∧ k < 4 ∧ j < 4 ∧ k ≠ j ∧ s.rows[k]? = some a ∧ s.rows[j]? = some b ∧ a.length ≤ 8 ∧ b.length ≤ 8 ∧
      ∀ F : Tr' → List St' → List St' → List Int, Vapatd.onRows s r q (fun t _ a b => (s, if Vapatd.ROW < a.length ∨ Vapatd.ROW < b.length then [-6] else F t a b)) = (s, F t a b)) := by
  unfold hflt
  rcases rows_cases g r q with ⟨e, e1, e2⟩ | ⟨e1, t, k, j, a, b, et, rfl, rfl, hk, hj, hn, ea, eb, eo⟩
  · refine .inl ⟨e, ?_, fun F => e2 _⟩
    rw [e1, if_neg (by simp)]
  · have ra : rowI s (k : Int) = a := by
      unfold rowI
      rw [show ((k : Nat) : Int).toNat = k from rfl, ea]
      rfl
    have rb : rowI s (j : Int) = b := by
      unfold rowI
      rw [show ((j : Nat) : Int).toNat = j from rfl, eb]
      rfl
    rw [e1, ra, rb]
    by_cases c : 8 < a.length ∨ 8 < b.length
    · refine .inl ⟨-6, if_pos ⟨rfl, c⟩, fun F => ?_⟩
      rw [eo, if_pos (by unfold Vapatd.ROW; exact c)]
    · refine .inr ⟨if_neg (fun h => c h.2), t, k, j, a, b, et, rfl, rfl, hk, hj, hn, ea, eb, by omega, by omega, fun F => ?_⟩
      rw [eo, if_neg (by unfold Vapatd.ROW; exact c)]
theorem st_conflicts {s : HSt} {r q : Int} : Vapatd.step s (.conflicts r q) = Vapatd.onRows s r q fun _ _ a b => (s, if Vapatd.ROW < a.length ∨ Vapatd.ROW < b.length then [-6] else Vapatd.pairsTold (Vapatd.conflicts a b)) := rfl
theorem st_clean {s : HSt} {r q : Int} : Vapatd.step s (.clean r q) = Vapatd.onRows s r q fun t _ a b => (s, if Vapatd.ROW < a.length ∨ Vapatd.ROW < b.length then [-6] else Vapatd.listed (leftOut1 a b) ++ (Vapatd.listed (leftOut2 a b) ++ (match Vapatd.clean a b with
    | none => [-9]
    | some l => Vapatd.treeTold t l))) := rfl
theorem left1_asc (a b : List St') : (leftOut1 a b).Pairwise (· < ·) := List.Pairwise.filter _ List.pairwise_lt_range
theorem left2_asc (a b : List St') : (leftOut2 a b).Pairwise (· < ·) := List.Pairwise.filter _ List.pairwise_lt_range
theorem left1_lt {a b : List St'} : ∀ x ∈ leftOut1 a b, x < a.length := fun _ h => List.mem_range.mp (List.mem_filter.mp h).1
theorem left2_lt {a b : List St'} : ∀ x ∈ leftOut2 a b, x < b.length := fun _ h => List.mem_range.mp (List.mem_filter.mp h).1
theorem all_iff {a b : List St'} {i j : Nat} : (i, j) ∈ allConflicts a b ↔ i < a.length ∧ j < b.length ∧ conflict a b i j = true := by
  unfold allConflicts
  rw [List.mem_flatMap]
  constructor
  · rintro ⟨x, hx, h⟩
    obtain ⟨y, hy, e⟩ := List.mem_map.mp h
    obtain ⟨rfl, rfl⟩ := Prod.mk.inj e
    obtain ⟨h1, h2⟩ := List.mem_filter.mp hy
    exact ⟨List.mem_range.mp hx, List.mem_range.mp h1, h2⟩
  · rintro ⟨h1, h2, h3⟩
    exact ⟨i, List.mem_range.mpr h1, List.mem_map.mpr ⟨j, List.mem_filter.mpr ⟨List.mem_range.mpr h2, h3⟩, rfl⟩⟩
theorem left1_iff {a b : List St'} {i : Nat} : i ∈ leftOut1 a b ↔ ∃ p ∈ allConflicts a b, p.1 = i := by
  unfold leftOut1
  rw [List.mem_filter, List.any_eq_true]
  constructor
  · rintro ⟨h1, j, h2, h3⟩
    exact ⟨(i, j), all_iff.mpr ⟨List.mem_range.mp h1, List.mem_range.mp h2, h3⟩, rfl⟩
  · rintro ⟨⟨x, j⟩, h, rfl⟩
    obtain ⟨h1, h2, h3⟩ := all_iff.mp h
    exact ⟨List.mem_range.mpr h1, j, List.mem_range.mpr h2, h3⟩
theorem left2_iff {a b : List St'} {i : Nat} : i ∈ leftOut2 a b ↔ ∃ p ∈ allConflicts a b, p.2 = i := by
  unfold leftOut2
  rw [List.mem_filter, List.any_eq_true]
  constructor
  · rintro ⟨h1, j, h2, h3⟩
    exact ⟨(j, i), all_iff.mpr ⟨List.mem_range.mp h2, List.mem_range.mp h1, h3⟩, rfl⟩
  · rintro ⟨⟨x, j⟩, h, rfl⟩
    obtain ⟨h1, h2, h3⟩ := all_iff.mp h
    exact ⟨List.mem_range.mpr h2, x, List.mem_range.mpr h1, h3⟩
/-- the sorted list of one side is the list of the steps left out -/
theorem side_is {al : List (Nat × Nat)} {f : Nat × Nat → Nat} {l : List Nat} {ns : List Int} (hl : l.Pairwise (· < ·)) (hi : ∀ i, i ∈ l ↔ ∃ p ∈ al, f p = i) (pw : ns.Pairwise (· < ·)) (h : ∀ k : Int, k ∈ ns ↔ decide (k ∈ al.map fun p => ((f p : Nat) : Int)) = true) : ns.map V.int = tok l := by
  have : ns = l.map Int.ofNat := by
    refine sorted_sameI pw ?_ fun k => ?_
    · rw [List.pairwise_map]
      exact hl.imp fun h => Int.ofNat_lt.mpr h
    · rw [h k, decide_eq_true_eq, List.mem_map, List.mem_map]
      constructor
      · rintro ⟨p, hp, rfl⟩
        exact ⟨f p, (hi _).mpr ⟨p, hp, rfl⟩, rfl⟩
      · rintro ⟨i, hl, rfl⟩
        obtain ⟨p, hp, rfl⟩ := (hi i).mp hl
        exact ⟨p, hp, rfl⟩
  rw [this]
  exact (tok_ints l).symm
theorem side_few {al : List (Nat × Nat)} {f : Nat × Nat → Nat} {c : Nat} (b : ∀ p ∈ al, f p < 8) (h : ∃ es : List Int, es.Nodup ∧ (∀ k, k ∈ es ↔ k ∈ al.map fun p => ((f p : Nat) : Int)) ∧ es.length = c) : c < 64 := by
  obtain ⟨es, h1, h2, rfl⟩ := h
  have := nodup_few (n := 8) h1 fun k hk => by
    obtain ⟨p, hp, rfl⟩ := List.mem_map.mp ((h2 k).mp hk)
    have := b p hp
    omega
  omega
section
variable {P : Program} {w : World} {K : PySem.W.Frag} {mg : Str → Option Value} {base : Heap}
def sp_House_held_fault (X : Txt K mg) : Sp := fun vs H Q _ => ∃ (a : Addr) (r q : Int) (s : HSt), vs = [.ref a, .int r, .int q] ∧ HouseAt X H a s ∧ Good s ∧ Post H Q (LstN H ((hflt s r q).map V.int))
theorem ok_House_held_fault (X : Txt K mg) : FnOk P w K mg base CX0 3 X.m_House_held_fault.f X.m_House_held_fault.fd ["self", "one", "other"] (sp_House_held_fault X) := by
  refine X.m_House_held_fault.F.ok sc_House_held_fault (fun vs H Q E h => ?_) (fun cdv A outer s0 H vs Q E hr h => ?_)
  · obtain ⟨a, r, q, s, rfl, _⟩ := h
    rfl
  · obtain ⟨a, r, q, s, rfl, ⟨dx, vb, rr, as, hh⟩, g, k⟩ := h
    refine ⟨_, (pss_cons (ps_set (i := 3) sc_House_held_fault.nd rfl (.inl rfl) (pe_meth (pv 0) X.cl_House X.m_House_pair_fault.m (ok_House_pair_fault X) (hr.mono (by decide)) X.m_House_pair_fault.b .nil pass0 (pa_cons (pv 1) (pa_cons (pv 2) pa_nil))))
        (pss_cons (ps_if (PW.pt (pw_and (pt_cmpR op_eq (pe_callB call_len_seq (by rfl) X.b_len (by decide +kernel) (pa_cons (pv 3) pa_nil)) pe_int (nomark _)) (pw_and1 (pt_cmpR op_gt (pe_callB (call_max2 rfl) (by rfl) X.b_max (by decide +kernel) (pa_cons (pe_callB call_len_seq (by rfl) X.b_len (by decide +kernel) (pa_cons (pe_ix ix_list (pe_fld (pv 0) rfl) (pv 1) (fun _ _ => rfl)) pa_nil)) (pa_cons (pe_callB call_len_seq (by rfl) X.b_len (by decide +kernel) (pa_cons (pe_ix ix_list (pe_fld (pv 0) rfl) (pv 2) (fun _ _ => rfl)) pa_nil)) pa_nil))) (pe_glob (v := .int 8) rfl X.c_MOST_STEPS.h ⟨_, rfl⟩) (nomark _))))) (pss_one (ps_ret (pe_lst (pa_cons (pe_glob (v := .int (-6)) rfl X.c_TOO_MANY.h ⟨_, rfl⟩) pa_nil)))) pss_nil)
        (pss_one (ps_ret (pv 3))))), ?_⟩
    refine r_hmeth X hh ?_
    refine ⟨_, rfl, _, rfl, a, r, q, s, rfl, ⟨dx, vb, rr, as, hh⟩, fun H1 v1 s1 r1 => ?_⟩
    obtain ⟨p1, rfl, e1, fp1⟩ := r1
    have h1 := hh.same s1
    rcases rows_cases g r q with ⟨e, ef, eo⟩ | ⟨ef, t, n, m, ra, rb, et, rfl, rfl, hn, hm, hnm, ea, eb, eo⟩
    · have eh : hflt s r q = [e] := by
        unfold hflt
        rw [ef, if_neg (by simp)]
      rw [ef] at e1
      rw [eh] at k
      refine ⟨_, rfl, _, _, rfl, .inl (SqL.of e1), rfl, _, rfl, ?_⟩
      refine ifF rfl ?_
      refine ifF rfl ?_
      exact ⟨_, rfl, k H1 _ s1 ⟨p1, rfl, e1, fp1⟩⟩
    · have xa : rowI s (n : Int) = ra := by
        unfold rowI
        rw [show ((n : Nat) : Int).toNat = n from rfl, ea]
        rfl
      have xb : rowI s (m : Int) = rb := by
        unfold rowI
        rw [show ((m : Nat) : Int).toNat = m from rfl, eb]
        rfl
      unfold hflt at k
      rw [ef, xa, xb] at k
      rw [ef] at e1
      obtain ⟨b1, eb1, as1, ea1, has1⟩ := h1.row et ea
      obtain ⟨b2, eb2, as2, ea2, has2⟩ := h1.row et eb
      have i1 : atI (as.map V.ref) ((n : Nat) : Int) = some (.ref b1) := atI_nat (by rw [List.getElem?_map, eb1]; rfl)
      have i2 : atI (as.map V.ref) ((m : Nat) : Int) = some (.ref b2) := atI_nat (by rw [List.getElem?_map, eb2]; rfl)
      refine ⟨_, rfl, _, _, rfl, .inl (SqL.of e1), rfl, _, rfl, ?_⟩
      refine ifT rfl ?_
      refine r_hrows X h1 ?_
      refine ⟨_, rfl, _, _, _, _, rfl, rfl, SqL.of h1.rows, i1, ?_⟩
      refine ⟨_, _, rfl, .inl (SqL.of ea1), ?_⟩
      refine r_hrows X h1 ?_
      refine ⟨_, rfl, _, _, _, _, rfl, rfl, SqL.of h1.rows, i2, ?_⟩
      refine ⟨_, _, rfl, .inl (SqL.of ea2), _, _, rfl, _, _, rfl, rfl, _, rfl, ?_⟩
      rw [List.length_map, List.length_map, has1.len, has2.len]
      by_cases c : 8 < ra.length ∨ 8 < rb.length
      · rw [if_pos ⟨rfl, c⟩] at k
        refine ifT (decide_eq_true ?_) ?_
        · split <;> omega
        refine ⟨(by show 1 ≤ sizeLine; decide), fun p np => ?_⟩
        exact k _ _ (s1.trans (same_upd np)) ⟨p, rfl, upd_same, Same.free s1 np⟩
      · rw [if_neg (fun h => c h.2)] at k
        refine ifF (decide_eq_false ?_) ?_
        · split <;> omega
        exact ⟨_, rfl, k H1 _ s1 ⟨p1, rfl, e1, fp1⟩⟩
def sp_House_conflicts (X : Txt K mg) : Sp := fun vs H Q _ => ∃ (a : Addr) (r q : Int) (s : HSt), vs = [.ref a, .int r, .int q] ∧ HouseAt X H a s ∧ Good s ∧ PostH X H a Q (Vapatd.step s (.conflicts r q))
theorem ok_House_conflicts (X : Txt K mg) : FnOk P w K mg base CX0 12 X.m_House_conflicts.f X.m_House_conflicts.fd ["self", "one", "other"] (sp_House_conflicts X) := by
  refine X.m_House_conflicts.F.ok sc_House_conflicts (fun vs H Q E h => ?_) (fun cdv A outer s0 H vs Q E hr h => ?_)
  · obtain ⟨a, r, q, s, rfl, _⟩ := h
    rfl
  · obtain ⟨a, r, q, s, rfl, ⟨dx, vb, rr, as, hh⟩, g, k⟩ := h
    refine ⟨_, (pss_cons (ps_set (i := 3) sc_House_conflicts.nd rfl (.inl rfl) (pe_meth (pv 0) X.cl_House X.m_House_held_fault.m (ok_House_held_fault X) (hr.mono (by decide)) X.m_House_held_fault.b .nil pass0 (pa_cons (pv 1) (pa_cons (pv 2) pa_nil))))
        (pss_cons (ps_if (pt_cmpR op_gt (pe_callB call_len_seq (by rfl) X.b_len (by decide +kernel) (pa_cons (pv 3) pa_nil)) pe_int (nomark _)) (pss_one (ps_ret (pv 3))) pss_nil)
        (pss_cons (ps_set (i := 4) sc_House_conflicts.nd rfl (.inl rfl) (pe_call (ok_first_conflicts X) (hr.mono (by decide)) rfl X.d_first_conflicts.g X.d_first_conflicts.F.kp X.d_first_conflicts.b .nil pass0 (pa_cons (pe_ix ix_list (pe_fld (pv 0) rfl) (pv 1) (fun _ _ => rfl)) (pa_cons (pe_ix ix_list (pe_fld (pv 0) rfl) (pv 2) (fun _ _ => rfl)) pa_nil))))
        (pss_cons (ps_set (i := 5) sc_House_conflicts.nd rfl (.inl rfl) (pe_lst (pa_cons (pe_callB call_len_seq (by rfl) X.b_len (by decide +kernel) (pa_cons (pv 4) pa_nil)) pa_nil)))
        (pss_cons (ps_for PassesOwn.never rfl (pi_list (pv 4)) (pg_tup rfl (pgs_cons (pg_name (i := 6) sc_House_conflicts.nd rfl (.inl rfl)) (pgs_cons (pg_name (i := 7) sc_House_conflicts.nd rfl (.inl rfl)) pgs_nil))) (pss_one (ps_set (i := 5) sc_House_conflicts.nd rfl (.inl rfl) (pe_op op_cat (pv 5) (pe_lst (pa_cons (pv 6) (pa_cons (pv 7) pa_nil)))))))
        (pss_one (ps_ret (pv 5)))))))), ?_⟩
    refine r_hmeth X hh ?_
    refine ⟨_, rfl, _, rfl, a, r, q, s, rfl, ⟨dx, vb, rr, as, hh⟩, g, fun H1 v1 s1 r1 => ?_⟩
    obtain ⟨p1, rfl, e1, fp1⟩ := r1
    have h1 := hh.same s1
    rcases held_cases g r q with ⟨e, ef, eo⟩ | ⟨ef, t, n, m, ra, rb, et, rfl, rfl, hn, hm, hnm, ea, eb, la, lb, eo⟩
    · rw [ef] at e1
      rw [st_conflicts, eo] at k
      refine ⟨_, rfl, _, _, rfl, .inl (SqL.of e1), _, _, rfl, rfl, _, rfl, ?_⟩
      refine ifT rfl ?_
      exact ⟨_, rfl, k H1 _ (hh.offS s1) ⟨dx, vb, rr, as, h1⟩ ⟨p1, rfl, e1, fp1⟩⟩
    rw [ef] at e1
    rw [st_conflicts, eo] at k
    refine ⟨_, rfl, _, _, rfl, .inl (SqL.of e1), _, _, rfl, rfl, _, rfl, ?_⟩
    refine ifF rfl ?_
    obtain ⟨_, oka, ua, eua⟩ := g.row t et ra (List.mem_of_getElem? ea)
    obtain ⟨_, okb, ub, eub⟩ := g.row t et rb (List.mem_of_getElem? eb)
    have tk := g.tk t et
    obtain ⟨b1, eb1, hb1⟩ := h1.row et ea
    obtain ⟨b2, eb2, hb2⟩ := h1.row et eb
    have i1 : atI (as.map V.ref) ((n : Nat) : Int) = some (.ref b1) := atI_nat (by rw [List.getElem?_map, eb1]; rfl)
    have i2 : atI (as.map V.ref) ((m : Nat) : Int) = some (.ref b2) := atI_nat (by rw [List.getElem?_map, eb2]; rfl)
    refine r_hrows X h1 ?_
    refine ⟨_, rfl, _, _, _, _, rfl, rfl, SqL.of h1.rows, i1, ?_⟩
    refine r_hrows X h1 ?_
    refine ⟨_, rfl, _, _, _, _, rfl, rfl, SqL.of h1.rows, i2, ?_⟩
    refine ⟨b1, b2, ra, rb, rfl, hb1, hb2, by omega, by omega, oka, okb, fun H2 v2 s2 r2 => ?_⟩
    obtain ⟨pP, ts, rfl, eP, hts⟩ := r2
    have s02 := s1.trans s2
    have h2 := h1.same s2
    have lps : (Vapatd.conflicts ra rb).length ≤ 10000 := by
      rw [conf_eq]
      exact Nat.le_trans (List.length_filter_le _ _) (al_len (by omega) (by omega))
    generalize Vapatd.conflicts ra rb = ps at k hts lps
    refine ⟨_, rfl, _, _, rfl, .inl (SqL.of eP), (by show 1 ≤ sizeLine; decide), fun p3 n3 => ?_⟩
    refine alloc n3 fun H3 s3 e3 => ?_
    refine ⟨_, rfl, pP, rfl, ⟨_, SqL.of (s3 _ _ eP)⟩, for_it walk_list (fun i σ H' => ∃ (f : Addr) (v6 v7 : Option V), σ = [some (.ref a), some (vN n), some (vN m), some (.ref p1), some (.ref pP), some (.ref f), v6, v7] ∧ Same H2 H' ∧ H f = none ∧ H' f = some (.lst ((((ps.length : Nat) : Int) :: (ps.take i).flatMap fun x => [Vapatd.int x.1, Vapatd.int x.2]).map V.int)))
      ⟨p3, none, none, rfl, s3, Same.free s02 n3, by rw [e3, List.length_map, hts.len]; rfl⟩ (fun i σ H' _ ⟨_, _, _, _, s4, _⟩ => SqL.of (s4 _ _ eP)) ?_ ?_⟩
    · rintro i x σ H4 H5 hi ⟨f, v6, v7, rfl, s4, nf, ef4⟩ ⟨rfl, hx⟩
      obtain ⟨T, hT, rfl⟩ := ref_get hx
      obtain ⟨x, ex, eT⟩ := hts.get hT
      have hlt := (List.getElem?_eq_some_iff.mp ex).1
      refine ⟨T, _, rfl, SqT.of (s4 _ _ eT), rfl, _, _, rfl, _, _, rfl, rfl, ?_⟩
      refine ⟨_, rfl, _, rfl, _, rfl, (by show 2 ≤ sizeLine; decide), fun p5 n5 => ?_⟩
      refine alloc n5 fun H5 s5 e5 => ?_
      have lf : ((ps.take i).flatMap fun x => [Vapatd.int x.1, Vapatd.int x.2]).length ≤ 20000 := by
        have : ∀ l : List (Nat × Nat), (l.flatMap fun x => [Vapatd.int x.1, Vapatd.int x.2]).length = 2 * l.length := fun l => by
          induction l with
          | nil => rfl
          | cons y l ih =>
            rw [List.flatMap_cons, List.length_append, ih, List.length_cons]
            simp
            omega
        rw [this, List.length_take]
        omega
      refine ⟨_, _, _, _, rfl, rfl, s5 _ _ ef4, e5, line_le (by simp only [List.length_map, List.length_cons, List.length_nil]; omega), fun p6 n6 => ?_⟩
      refine alloc n6 fun H6 s6 e6 => ?_
      refine ⟨p6, _, _, rfl, (s4.trans s5).trans s6, Same.free ((s02.trans s4).trans s5) n6, ?_⟩
      rw [e6, RM.take_more ex]
      simp [Vapatd.int]
    · rintro σ H4 ⟨f, v6, v7, rfl, s4, nf, ef4⟩
      rw [List.length_map, hts.len, List.take_length] at ef4
      exact ⟨_, rfl, k H4 _ (hh.offS (s02.trans s4)) ⟨dx, _, rr, as, h2.same s4⟩ ⟨f, rfl, ef4, nf⟩⟩
def sp_House_clean (X : Txt K mg) : Sp := fun vs H Q _ => ∃ (a : Addr) (r q : Int) (s : HSt), vs = [.ref a, .int r, .int q] ∧ HouseAt X H a s ∧ Good s ∧ PostH X H a Q (Vapatd.step s (.clean r q))
theorem ok_House_clean (X : Txt K mg) : FnOk P w K mg base CX0 11 X.m_House_clean.f X.m_House_clean.fd ["self", "one", "other"] (sp_House_clean X) := by
  refine X.m_House_clean.F.ok sc_House_clean (fun vs H Q E h => ?_) (fun cdv A outer s0 H vs Q E hr h => ?_)
  · obtain ⟨a, r, q, s, rfl, _⟩ := h
    rfl
  · obtain ⟨a, r, q, s, rfl, ⟨dx, vb, rr, as, hh⟩, g, k⟩ := h
    refine ⟨_, (pss_cons (ps_set (i := 3) sc_House_clean.nd rfl (.inl rfl) (pe_meth (pv 0) X.cl_House X.m_House_held_fault.m (ok_House_held_fault X) (hr.mono (by decide)) X.m_House_held_fault.b .nil pass0 (pa_cons (pv 1) (pa_cons (pv 2) pa_nil))))
        (pss_cons (ps_if (pt_cmpR op_gt (pe_callB call_len_seq (by rfl) X.b_len (by decide +kernel) (pa_cons (pv 3) pa_nil)) pe_int (nomark _)) (pss_one (ps_ret (pv 3))) pss_nil)
        (pss_cons (ps_set (i := 4) sc_House_clean.nd rfl (.inl rfl) (pe_call (ok_conflicting X) (hr.mono (by decide)) rfl X.d_conflicting.g X.d_conflicting.F.kp X.d_conflicting.b .nil pass0 (pa_cons (pe_ix ix_list (pe_fld (pv 0) rfl) (pv 1) (fun _ _ => rfl)) (pa_cons (pe_ix ix_list (pe_fld (pv 0) rfl) (pv 2) (fun _ _ => rfl)) pa_nil))))
        (pss_cons (ps_set (i := 5) sc_House_clean.nd rfl (.inl rfl) (pe_callB (cr_sortedSet rfl) (by rfl) X.b_sorted (by decide +kernel) (pa_cons (pe_callTy (cr_setInts rfl) (by rfl) X.b_set (by decide +kernel) (pa_cons (pe_lc (own := [("i", 10), ("j", 11)]) (g := gTup K 2 (gCons (gName 10) (gCons (gName 11) gNil))) rfl sc_House_clean.nd (pi_list (pv 4)) (blkOk_by (own := [("i", 10), ("j", 11)]) (N := n_House_clean) (sc := defScope s_House_clean) (by decide +kernel)) (fun _ _ _ _ _ => (pg_tup rfl (pgs_cons (pg_name (i := 10) sc_House_clean.nd rfl (.inl rfl)) (pgs_cons (pg_name (i := 11) sc_House_clean.nd rfl (.inl rfl)) pgs_nil)))) (fun _ _ _ _ _ => pts_nil) (fun _ _ _ _ _ => (pv 10))) pa_nil)) pa_nil)))
        (pss_cons (ps_set (i := 6) sc_House_clean.nd rfl (.inl rfl) (pe_callB (cr_sortedSet rfl) (by rfl) X.b_sorted (by decide +kernel) (pa_cons (pe_callTy (cr_setInts rfl) (by rfl) X.b_set (by decide +kernel) (pa_cons (pe_lc (own := [("i", 10), ("j", 11)]) (g := gTup K 2 (gCons (gName 10) (gCons (gName 11) gNil))) rfl sc_House_clean.nd (pi_list (pv 4)) (blkOk_by (own := [("i", 10), ("j", 11)]) (N := n_House_clean) (sc := defScope s_House_clean) (by decide +kernel)) (fun _ _ _ _ _ => (pg_tup rfl (pgs_cons (pg_name (i := 10) sc_House_clean.nd rfl (.inl rfl)) (pgs_cons (pg_name (i := 11) sc_House_clean.nd rfl (.inl rfl)) pgs_nil)))) (fun _ _ _ _ _ => pts_nil) (fun _ _ _ _ _ => (pv 11))) pa_nil)) pa_nil)))
        (pss_cons (ps_set (i := 7) sc_House_clean.nd rfl (.inl rfl) (pe_call (ok_what_is_left X) (hr.mono (by decide)) rfl X.d_what_is_left.g X.d_what_is_left.F.kp X.d_what_is_left.b .nil pass0 (pa_cons (pe_ix ix_list (pe_fld (pv 0) rfl) (pv 1) (fun _ _ => rfl)) (pa_cons (pv 5) pa_nil))))
        (pss_cons (ps_set (i := 8) sc_House_clean.nd rfl (.inl rfl) (pe_call (ok_merged X) (hr.mono (by decide)) rfl X.d_merged.g X.d_merged.F.kp X.d_merged.b .nil pass0 (pa_cons (pv 7) (pa_cons (pe_call (ok_what_is_left X) (hr.mono (by decide)) rfl X.d_what_is_left.g X.d_what_is_left.F.kp X.d_what_is_left.b .nil pass0 (pa_cons (pe_ix ix_list (pe_fld (pv 0) rfl) (pv 2) (fun _ _ => rfl)) (pa_cons (pv 6) pa_nil))) pa_nil))))
        (pss_cons (ps_set (i := 9) sc_House_clean.nd rfl (.inl rfl) (pe_meth (pe_fld (pv 0) rfl) X.cl_Tree X.m_Tree_behind.m (ok_Tree_behind X) (hr.mono (by decide)) X.m_Tree_behind.b .nil pass0 (pa_cons (pv 7) pa_nil)))
        (pss_cons (ps_if (pt_cmp (pc_notN (pv 8)) rfl) (pss_one (ps_set (i := 9) sc_House_clean.nd rfl (.inl rfl) (pe_meth (pv 9) X.cl_Tree X.m_Tree_behind.m (ok_Tree_behind X) (hr.mono (by decide)) X.m_Tree_behind.b .nil pass0 (pa_cons (pe_ix ix_tup (pv 8) pe_int (fun _ _ => rfl)) pa_nil)))) pss_nil)
        (pss_one (ps_ret (pe_op op_cat (pe_op op_cat (pe_op op_cat (pe_op op_cat (pe_lst (pa_cons (pe_callB call_len_seq (by rfl) X.b_len (by decide +kernel) (pa_cons (pv 5) pa_nil)) pa_nil)) (pv 5)) (pe_lst (pa_cons (pe_callB call_len_seq (by rfl) X.b_len (by decide +kernel) (pa_cons (pv 6) pa_nil)) pa_nil))) (pv 6)) (pe_meth0 (pv 9) X.cl_Tree X.m_Tree_numbers.m (ok_Tree_numbers X) (hr.mono (by decide)) X.m_Tree_numbers.b .nil pass0))))))))))))), ?_⟩
    refine r_hmeth X hh ?_
    refine ⟨_, rfl, _, rfl, a, r, q, s, rfl, ⟨dx, vb, rr, as, hh⟩, g, fun H1 v1 s1 r1 => ?_⟩
    obtain ⟨p1, rfl, e1, fp1⟩ := r1
    have h1 := hh.same s1
    rcases held_cases g r q with ⟨e, ef, eo⟩ | ⟨ef, t, n, m, ra, rb, et, rfl, rfl, hn, hm, hnm, ea, eb, la, lb, eo⟩
    · rw [ef] at e1
      rw [st_clean, eo] at k
      refine ⟨_, rfl, _, _, rfl, .inl (SqL.of e1), _, _, rfl, rfl, _, rfl, ?_⟩
      refine ifT rfl ?_
      exact ⟨_, rfl, k H1 _ (hh.offS s1) ⟨dx, vb, rr, as, h1⟩ ⟨p1, rfl, e1, fp1⟩⟩
    rw [ef] at e1
    rw [st_clean, eo] at k
    refine ⟨_, rfl, _, _, rfl, .inl (SqL.of e1), _, _, rfl, rfl, _, rfl, ?_⟩
    refine ifF rfl ?_
    obtain ⟨_, oka, ua, eua⟩ := g.row t et ra (List.mem_of_getElem? ea)
    obtain ⟨_, okb, ub, eub⟩ := g.row t et rb (List.mem_of_getElem? eb)
    have tk := g.tk t et
    obtain ⟨b1, eb1, hb1⟩ := h1.row et ea
    obtain ⟨b2, eb2, hb2⟩ := h1.row et eb
    have i1 : atI (as.map V.ref) ((n : Nat) : Int) = some (.ref b1) := atI_nat (by rw [List.getElem?_map, eb1]; rfl)
    have i2 : atI (as.map V.ref) ((m : Nat) : Int) = some (.ref b2) := atI_nat (by rw [List.getElem?_map, eb2]; rfl)
    refine r_hrows X h1 ?_
    refine ⟨_, rfl, _, _, _, _, rfl, rfl, SqL.of h1.rows, i1, ?_⟩
    refine r_hrows X h1 ?_
    refine ⟨_, rfl, _, _, _, _, rfl, rfl, SqL.of h1.rows, i2, ?_⟩
    refine ⟨b1, b2, ra, rb, rfl, hb1, hb2, by omega, by omega, oka, okb, fun H2 v2 s2 r2 => ?_⟩
    obtain ⟨pP, ts, rfl, eP, hts⟩ := r2
    have s02 := s1.trans s2
    have h2 := h1.same s2
    have lal : (allConflicts ra rb).length ≤ 64 := by
      unfold allConflicts
      refine Nat.le_trans (fm_len (m := 8) (fun i => ?_) ra.length) (Nat.mul_le_mul_right 8 la)
      rw [List.length_map]
      refine Nat.le_trans (List.length_filter_le _ _) ?_
      rw [List.length_range]
      exact lb
    have lt : ts.length = (allConflicts ra rb).length := hts.len
    -- the steps of the first row
    refine ⟨_, rfl, pP, rfl, ⟨_, SqL.of eP⟩, fun D hD => ?_⟩
    refine lc_it walk_list (fun i H' => Same H2 H' ∧ H' D = some (.lst ((((allConflicts ra rb).take i).map fun p => ((p.1 : Nat) : Int)).map V.int))) ⟨same_upd hD, upd_same⟩ (fun i H' _ ⟨s5, _⟩ => SqL.of (s5 _ _ eP)) ?_ ?_
    · rintro i x H4 H5 hi ⟨s4, eD⟩ ⟨rfl, hx⟩
      obtain ⟨T, hT, rfl⟩ := ref_get hx
      obtain ⟨x, ex, eT⟩ := hts.get hT
      refine ⟨T, _, rfl, SqT.of (s4 _ _ eT), rfl, _, _, rfl, _, _, rfl, rfl, rfl, ?_⟩
      refine ⟨_, rfl, _, eD, line_lt (by simp only [List.length_map, List.length_take]; omega), same_off s4 hD Off.upd, ?_⟩
      rw [upd_same, RM.take_more ex]
      simp
    rintro H3 ⟨s3, eD⟩
    rw [List.length_map, lt, List.take_length] at eD
    refine ⟨D, _, rfl, SqL.of eD, by rw [List.length_map]; omega, fun sa c na hes => ?_⟩
    have few := side_few (al := allConflicts ra rb) (f := fun p => p.1) (fun p hp => by
      have := (all_mem hp).1
      omega) hes
    refine ⟨sa, _, c, rfl, upd_same, few, fun ns1 pN1 pw1 mem1 len1 np1 => ?_⟩
    rw [side_is (left1_asc ra rb) (fun _ => left1_iff) pw1 mem1]
    refine alloc np1 fun H5 s5 eN1 => ?_
    have s25 := (s3.trans (same_upd na)).trans s5
    clear few hes mem1 len1 pw1 np1 s5 eD s3 na hD
    -- the steps of the second row
    refine ⟨_, rfl, pP, rfl, ⟨_, SqL.of (s25 _ _ eP)⟩, fun D2 hD2 => ?_⟩
    refine lc_it walk_list (fun i H' => Same H5 H' ∧ H' D2 = some (.lst ((((allConflicts ra rb).take i).map fun p => ((p.2 : Nat) : Int)).map V.int))) ⟨same_upd hD2, upd_same⟩ (fun i H' _ ⟨s5, _⟩ => SqL.of (s5 _ _ (s25 _ _ eP))) ?_ ?_
    · rintro i x H6 H7 hi ⟨s6, eD⟩ ⟨rfl, hx⟩
      obtain ⟨T, hT, rfl⟩ := ref_get hx
      obtain ⟨x, ex, eT⟩ := hts.get hT
      refine ⟨T, _, rfl, SqT.of (s6 _ _ (s25 _ _ eT)), rfl, _, _, rfl, _, _, rfl, rfl, rfl, ?_⟩
      refine ⟨_, rfl, _, eD, line_lt (by simp only [List.length_map, List.length_take]; omega), same_off s6 hD2 Off.upd, ?_⟩
      rw [upd_same, RM.take_more ex]
      simp
    rintro H6 ⟨s6, eD2⟩
    rw [List.length_map, lt, List.take_length] at eD2
    refine ⟨D2, _, rfl, SqL.of eD2, by rw [List.length_map]; omega, fun sb c2 nb hes => ?_⟩
    have few := side_few (al := allConflicts ra rb) (f := fun p => p.2) (fun p hp => by
      have := (all_mem hp).2
      omega) hes
    refine ⟨sb, _, c2, rfl, upd_same, few, fun ns2 pN2 pw2 mem2 len2 np2 => ?_⟩
    rw [side_is (left2_asc ra rb) (fun _ => left2_iff) pw2 mem2]
    refine alloc np2 fun H8 s8 eN2 => ?_
    have s58 := (s6.trans (same_upd nb)).trans s8
    have s28 := s25.trans s58
    clear few hes mem2 len2 pw2 np2 s8 eD2 s6 nb hD2
    have eN1 := s58 _ _ eN1
    have h8 := h2.same s28
    have hb18 := (hb1.same s2).same s28
    have hb28 := (hb2.same s2).same s28
    obtain ⟨x1, x2, ⟨z, ez⟩, x4⟩ := RM.left_both ra rb
    obtain ⟨⟨ul, eul⟩, ⟨um, eum⟩⟩ := x4 tk.srt eua eub
    have rv1 : (leftOut1 ra rb).reverse.Pairwise (· > ·) := by
      rw [List.pairwise_reverse]
      exact left1_asc ra rb
    have rv2 : (leftOut2 ra rb).reverse.Pairwise (· > ·) := by
      rw [List.pairwise_reverse]
      exact left2_asc ra rb
    obtain ⟨ok1, len1⟩ := takenAll_ok rv1 (fun x hx => left1_lt x (List.mem_reverse.mp hx)) oka
    obtain ⟨ok2, len2⟩ := takenAll_ok rv2 (fun x hx => left2_lt x (List.mem_reverse.mp hx)) okb
    have ll1 : (leftOut1 ra rb).length ≤ 8 := by
      refine Nat.le_trans (List.length_filter_le _ _) ?_
      rw [List.length_range]
      exact la
    have ll2 : (leftOut2 ra rb).length ≤ 8 := by
      refine Nat.le_trans (List.length_filter_le _ _) ?_
      rw [List.length_range]
      exact lb
    have ecl : Vapatd.clean ra rb = some (RM.takenAll ra (leftOut1 ra rb).reverse ++ z.1) := by
      unfold Vapatd.clean
      simp only
      rw [ez, x1]
      rfl
    rw [ecl] at k
    rw [← x1] at ez eul
    rw [← x2] at ez eum
    refine r_hrows X h8 ?_
    refine ⟨_, rfl, _, _, _, _, rfl, rfl, SqL.of h8.rows, i1, ?_⟩
    refine ⟨_, rfl, b1, pN1, ra, leftOut1 ra rb, rfl, hb18, eN1, left1_asc ra rb, left1_lt, by omega, oka, fun H9 v9 s9 r9 => ?_⟩
    obtain ⟨cl, rfl, hcl⟩ := r9
    refine ⟨_, rfl, ?_⟩
    refine r_hrows X (h8.same s9) ?_
    refine ⟨_, rfl, _, _, _, _, rfl, rfl, SqL.of (h8.same s9).rows, i2, ?_⟩
    refine ⟨_, rfl, b2, pN2, rb, leftOut2 ra rb, rfl, hb28.same s9, s9 _ _ eN2, left2_asc ra rb, left2_lt, by omega, okb, fun H10 v10 s10 r10 => ?_⟩
    obtain ⟨cm, rfl, hcm⟩ := r10
    have s810 := s9.trans s10
    generalize RM.takenAll ra (leftOut1 ra rb).reverse = A0 at *
    generalize RM.takenAll rb (leftOut2 ra rb).reverse = B0 at *
    refine ⟨cl, cm, A0, B0, rfl, hcl.same s10, hcm, ok1, ok2, by omega, by omega, fun H11 v11 s11 r11 => ?_⟩
    rw [ez] at r11
    obtain ⟨T, c1, c2, rfl, eT, hc1, hc2⟩ := r11
    obtain ⟨okz, _, lz, _⟩ := rm_ok ez ok1 ok2
    obtain ⟨uf, euf⟩ := merged_on ez tk.srt eul eum
    obtain ⟨u1, eu1, eu2⟩ := RM.apa_app_iff.mp euf
    have s811 := s810.trans s11
    have h11 := h8.same s811
    obtain ⟨bt, rfl, dxt, d, kvs, ht⟩ := h11.tree et
    have tk1 := apa_ok tk ok1 eu1
    refine r_hbase X h11 ?_
    refine ⟨bt, dxt, _, rfl, ht.ins, fT_no (by decide +kernel), ?_⟩
    refine ⟨_, rfl, ?_⟩
    refine ⟨bt, cl, A0, t, u1, rfl, ⟨dxt, d, kvs, ht⟩, (hcl.same s10).same s11, ok1, by omega, tk.mono (by decide), eu1, fun H12 v12 s12 r12 => ?_⟩
    obtain ⟨t1, rfl, dx1, d1, kv1, ht1⟩ := r12
    refine ⟨_, rfl, _, rfl, ?_⟩
    refine ifT rfl ?_
    refine ⟨_, rfl, t1, dx1, _, rfl, ht1.ins, fT_no (by decide +kernel), ?_⟩
    refine ⟨_, rfl, _, _, _, _, rfl, rfl, SqT.of (s12 _ _ eT), rfl, ?_⟩
    refine ⟨t1, c1, z.1, u1, uf, rfl, ⟨dx1, d1, kv1, ht1⟩, hc1.same s12, okz, by omega, tk1.mono (by omega), eu2, fun H13 v13 s13 r13 => ?_⟩
    obtain ⟨t2, rfl, dx2, d2, kv2, ht2⟩ := r13
    have tk2 := apa_ok tk1 okz eu2
    have s813 := (s811.trans s12).trans s13
    have e113 := s813 _ _ eN1
    have e213 := s813 _ _ eN2
    refine ⟨_, rfl, _, _, rfl, .inl (SqL.of e113), (by show 1 ≤ sizeLine; decide), fun q1 m1 => ?_⟩
    refine alloc m1 fun H14 s14 e14 => ?_
    refine ⟨_, rfl, _, _, _, _, rfl, rfl, e14, s14 _ _ e113, line_le (by simp only [List.length_cons, List.length_nil, tok_len]; omega), fun q2 m2 => ?_⟩
    refine alloc m2 fun H15 s15 e15 => ?_
    have s135 := s14.trans s15
    refine ⟨_, rfl, _, _, rfl, .inl (SqL.of (s135 _ _ e213)), (by show 1 ≤ sizeLine; decide), fun q3 m3 => ?_⟩
    refine alloc m3 fun H16 s16 e16 => ?_
    refine ⟨_, _, _, _, rfl, rfl, s16 _ _ e15, e16, line_le (by simp only [List.length_cons, List.length_nil, List.length_append, tok_len]; omega), fun q4 m4 => ?_⟩
    refine alloc m4 fun H17 s17 e17 => ?_
    have s137 := (s135.trans s16).trans s17
    refine ⟨_, rfl, _, _, _, _, rfl, rfl, e17, s137 _ _ e213, line_le (by simp only [List.length_cons, List.length_nil, List.length_append, tok_len]; omega), fun q5 m5 => ?_⟩
    refine alloc m5 fun H18 s18 e18 => ?_
    have s138 := s137.trans s18
    refine ⟨_, rfl, t2, dx2, _, rfl, (ht2.same s138).ins, fT_no (by decide +kernel), ?_⟩
    refine ⟨t2, uf, rfl, ⟨dx2, d2, kv2, ht2.same s138⟩, tk2.mono (by omega), fun H19 v19 s19 r19 => ?_⟩
    obtain ⟨q6, rfl, e19, _⟩ := r19
    refine ⟨_, _, _, _, rfl, rfl, s19 _ _ e18, e19, line_le (by
      have := tree_len tk2 (by omega)
      simp only [List.length_cons, List.length_nil, List.length_append, List.length_map, tok_len]
      omega), fun q7 m7 => ?_⟩
    refine alloc m7 fun H20 s20 e20 => ?_
    have s820 := ((s813.trans s138).trans s19).trans s20
    refine k H20 _ (hh.offS ((s02.trans s28).trans s820)) ⟨dx, _, rr, as, h8.same s820⟩ ⟨q7, rfl, ?_, Same.free ((s02.trans s28).trans ((s813.trans s138).trans s19)) m7⟩
    rw [e20]
    show _ = some (HO.lst ((Vapatd.listed (leftOut1 ra rb) ++ (Vapatd.listed (leftOut2 ra rb) ++ Vapatd.treeTold t (A0 ++ z.1))).map V.int))
    rw [told_some euf, tok_len, tok_len]
    simp [Vapatd.listed, Vapatd.int, tok, Function.comp_def]
end
end Rw

/-! part RwHouse4 -/
set_option Elab.async false
set_option linter.all false
set_option maxRecDepth 100000
set_option maxHeartbeats 4000000
namespace Rw
open PySem PySem.Spec PyProof.Rows L2
open VapatBase (Tokens)
/-! The house: many rows, two steps. -/
open VapatBase (applied appliedAll fileIn flatSteps flatTree)
open Vapatd (State rowsMerged allConflicts allMerged once)
open RM (stepOf treeOf)
theorem st_all {s : HSt} {l : List Int} : Vapatd.step s (.all l) = Vapatd.onTree s fun t => (s, match Vapatd.rowsOf s l with
    | none => [-2]
    | some rs => match allMerged rs [] 0 with
      | .error k => [0, Vapatd.int k]
      | .ok m => 1 :: Vapatd.treeTold t m) := rfl
theorem st_two {s : HSt} {p q : List Int} : Vapatd.step s (.two p q) = match stepOf p, stepOf q with
    | some x, some y => (match Vapatd.merged x y with
      | none => (s, [0])
      | some z => (s, 1 :: (VapatBase.flatStep z.1 ++ VapatBase.flatStep z.2)))
    | _, _ => (s, [-1]) := by
  rw [← RM.step_is, ← RM.step_is]
  rfl
theorem rk_len {l : List Int} (h : ROk l) : l.length ≤ 4 := nodup_few (n := 4) h.2 fun k hk => h.1 k hk
section
variable {P : Program} {w : World} {K : PySem.W.Frag} {mg : Str → Option Value} {base : Heap}
def sp_House_all_merged (X : Txt K mg) : Sp := fun vs H Q _ => ∃ (a n : Addr) (s : HSt) (l : List Int), vs = [.ref a, .ref n] ∧ HouseAt X H a s ∧ Good s ∧ SqL K H n (l.map V.int) ∧ l.length ≤ 1000 ∧ PostH X H a Q (Vapatd.step s (.all l))
theorem ok_House_all_merged (X : Txt K mg) : FnOk P w K mg base CX0 10 X.m_House_all_merged.f X.m_House_all_merged.fd ["self", "numbers"] (sp_House_all_merged X) := by
  refine X.m_House_all_merged.F.ok sc_House_all_merged (fun vs H Q E h => ?_) (fun cdv A outer s0 H vs Q E hr h => ?_)
  · obtain ⟨a, n, s, l, rfl, _⟩ := h
    rfl
  · obtain ⟨a, n, s, l, rfl, ⟨dx, vb, rr, as, hh⟩, g, hN, ln, k⟩ := h
    refine ⟨_, (pss_cons (ps_if (pt_cmp (pc_isN (pe_fld (pv 0) rfl)) rfl) (pss_one (ps_ret (pe_lst (pa_cons (pe_glob (v := .int (-8)) rfl X.c_NO_TREE.h ⟨_, rfl⟩) pa_nil)))) pss_nil)
        (pss_cons (ps_if (pt_not (pt_val (pe_meth (pv 0) X.cl_House X.m_House_are_rows.m (ok_House_are_rows X) (hr.mono (by decide)) X.m_House_are_rows.b .nil pass0 (pa_cons (pv 1) pa_nil)))) (pss_one (ps_ret (pe_lst (pa_cons (pe_glob (v := .int (-2)) rfl X.c_NO_ROW.h ⟨_, rfl⟩) pa_nil)))) pss_nil)
        (pss_cons (ps_set (i := 2) sc_House_all_merged.nd rfl (.inl rfl) (pe_lst pa_nil))
        (pss_cons (ps_for PassesOwn.never rfl (pi_enum (by rfl) X.b_enumerate (pa_cons (pv 1) pa_nil)) (pg_tup rfl (pgs_cons (pg_name (i := 3) sc_House_all_merged.nd rfl (.inl rfl)) (pgs_cons (pg_name (i := 4) sc_House_all_merged.nd rfl (.inl rfl)) pgs_nil))) (pss_cons (ps_set (i := 5) sc_House_all_merged.nd rfl (.inl rfl) (pe_call (ok_merged X) (hr.mono (by decide)) rfl X.d_merged.g X.d_merged.F.kp X.d_merged.b .nil pass0 (pa_cons (pv 2) (pa_cons (pe_ix ix_list (pe_fld (pv 0) rfl) (pv 4) (fun _ _ => rfl)) pa_nil))))
        (pss_cons (ps_if (pt_cmp (pc_isN (pv 5)) rfl) (pss_one (ps_ret (pe_lst (pa_cons pe_int (pa_cons (pv 3) pa_nil))))) pss_nil)
        (pss_one (ps_set (i := 2) sc_House_all_merged.nd rfl (.inl rfl) (pe_op op_cat (pv 2) (pe_ix ix_tup (pv 5) pe_int (fun _ _ => rfl))))))))
        (pss_one (ps_ret (pe_op op_cat (pe_lst (pa_cons pe_int pa_nil)) (pe_meth0 (pe_meth (pe_fld (pv 0) rfl) X.cl_Tree X.m_Tree_behind.m (ok_Tree_behind X) (hr.mono (by decide)) X.m_Tree_behind.b .nil pass0 (pa_cons (pv 2) pa_nil)) X.cl_Tree X.m_Tree_numbers.m (ok_Tree_numbers X) (hr.mono (by decide)) X.m_Tree_numbers.b .nil pass0)))))))), ?_⟩
    rw [st_all] at k
    unfold Vapatd.onTree at k
    refine r_hbase X hh ?_
    cases et : s.tree with
    | none =>
      have hb := hh.base
      rw [et] at hb k
      cases (show vb = .non from hb)
      refine ⟨_, rfl, ?_⟩
      refine ifT rfl ?_
      refine ⟨(by show 1 ≤ sizeLine; decide), fun p np => ?_⟩
      exact k _ _ (hh.offS (same_upd np)) ⟨dx, .non, rr, as, hh.same (same_upd np)⟩ ⟨p, rfl, upd_same, np⟩
    | some t =>
      rw [et] at k
      simp only [rowsOf_is g et] at k
      have tk := g.tk t et
      obtain ⟨bt, rfl, hbt⟩ := hh.tree et
      refine ⟨_, rfl, ?_⟩
      refine ifF rfl ?_
      refine r_hmeth X hh ?_
      refine ⟨_, rfl, a, n, l, rfl, hN, ln, fun H1 s1 => ?_⟩
      have h1 := hh.same s1
      by_cases c : ROk l
      · rw [if_pos c] at k
        simp only at k
        refine ⟨_, rfl, ?_⟩
        refine ifF (by show (!decide (ROk l)) = false; rw [decide_eq_true c]; rfl) ?_
        have l4 := rk_len c
        refine ⟨Nat.zero_le _, fun p2 n2 => ?_⟩
        refine alloc n2 fun H2 s2 e2 => ?_
        have s02 := s1.trans s2
        have h2 := h1.same s2
        refine ⟨_, rfl, n, _, rfl, s02.seq hN, ?_⟩
        refine for_it walk_enum (fun i σ H' => ∃ (f : Addr) (cur : List St') (v3 v4 v5 : Option V), σ = [some (.ref a), some (.ref n), some (.ref f), v3, v4, v5] ∧ Same H2 H' ∧ RowAt K X.C_Step H' f cur ∧ allMerged (l.map (rowI s)) [] 0 = allMerged ((l.map (rowI s)).drop i) cur i ∧ (∀ x ∈ cur, Okk x) ∧ cur.length ≤ 24 * i ∧ ∃ u, appliedAll t cur = some u)
          ⟨p2, [], none, none, none, rfl, Same.refl H2, ⟨[], e2, .nil⟩, rfl, fun _ h => (nomatch h), Nat.zero_le _, _, rfl⟩ (fun i σ H' _ ⟨_, _, _, _, _, _, s3, _⟩ => s3.seq (s02.seq hN)) ?_ ?_
        · rintro i x σ H3 H4 hi ⟨f, cur, v3, v4, v5, rfl, s3, hf, eM, okc, lc, u, eu⟩ ⟨T, x1, x2, rfl, nT, rfl, hx1, hx2⟩
          cases hx1
          obtain ⟨z, hz, rfl⟩ := map_get hx2
          obtain ⟨hlt, hz2⟩ := List.getElem?_eq_some_iff.mp hz
          have s34 : Same H3 (upd H3 T (.tup [.int ((i : Nat) : Int), .int z])) := same_upd nT
          have eT : (upd H3 T (.tup [.int ((i : Nat) : Int), .int z])) T = some (.tup [.int ((i : Nat) : Int), .int z]) := upd_same
          generalize upd H3 T (.tup [.int ((i : Nat) : Int), .int z]) = H4 at s34 eT
          have s24 := s3.trans s34
          have h4 := h2.same s24
          obtain ⟨z1, z2⟩ := c.1 z (List.mem_of_getElem? hz)
          obtain ⟨row, er, _⟩ := row_of g et ⟨z1, z2⟩
          have erow : rowI s z = row := by
            unfold rowI
            rw [er]
            rfl
          obtain ⟨lr, okr, ur, eur⟩ := g.row t et row (List.mem_of_getElem? er)
          obtain ⟨b, eb, hb⟩ := h4.row et er
          have ez : z = ((z.toNat : Nat) : Int) := by omega
          have ib : atI (as.map V.ref) z = some (.ref b) := by
            rw [ez]
            exact atI_nat (by rw [List.getElem?_map, eb]; rfl)
          have hd : (l.map (rowI s)).drop i = row :: (l.map (rowI s)).drop (i + 1) := by
            have hlt' : i < (l.map (rowI s)).length := by
              rw [List.length_map]
              exact hlt
            rw [← List.getElem_cons_drop hlt', List.getElem_map, hz2, erow]
          rw [hd] at eM
          simp only [allMerged] at eM
          refine ⟨T, _, rfl, SqT.of eT, rfl, _, _, rfl, _, _, rfl, rfl, ?_⟩
          refine ⟨_, rfl, ?_⟩
          refine r_hrows X h4 ?_
          refine ⟨_, rfl, _, _, _, _, rfl, rfl, SqL.of h4.rows, ib, ?_⟩
          refine ⟨f, b, cur, row, rfl, hf.same s34, hb, okc, okr, by omega, by omega, fun H5 v s5 r5 => ?_⟩
          have s25 := s24.trans s5
          cases em : rowsMerged cur row with
          | none =>
            rw [em] at r5 eM
            cases (show v = .non from r5)
            refine ⟨_, rfl, _, rfl, ?_⟩
            refine ifT rfl ?_
            rw [eM] at k
            refine ⟨_, rfl, (by show 2 ≤ sizeLine; decide), fun p np => ?_⟩
            exact k _ _ (hh.offS ((s02.trans s25).trans (same_upd np))) ⟨dx, _, rr, as, (h2.same s25).same (same_upd np)⟩ ⟨p, rfl, upd_same, Same.free (s02.trans s25) np⟩
          | some y =>
            rw [em] at r5 eM
            simp only at eM
            obtain ⟨T2, c1, c2, rfl, eT2, hc1, hc2⟩ := r5
            obtain ⟨ok1, _, l1, _⟩ := rm_ok em okc okr
            obtain ⟨w, ew⟩ := merged_on em tk.srt eu eur
            refine ⟨_, rfl, _, rfl, ?_⟩
            refine ifF rfl ?_
            obtain ⟨fs, ef, hfs⟩ := (hf.same s34).same s5
            obtain ⟨cs, ec, hcs⟩ := hc1
            refine ⟨_, rfl, _, rfl, _, _, _, _, rfl, rfl, SqT.of eT2, rfl, ?_⟩
            refine ⟨_, _, _, _, rfl, rfl, ef, ec, line_le (by rw [List.length_map, List.length_map, hfs.len, hcs.len]; omega), fun p6 n6 => ?_⟩
            refine alloc n6 fun H6 s6 e6 => ?_
            refine ⟨p6, cur ++ y.1, _, _, _, rfl, s25.trans s6, row_app e6 (steps_same hfs s6) (steps_same hcs s6), eM, fun s hs => ?_, by rw [List.length_append, l1]; omega, w, ew⟩
            rcases List.mem_append.mp hs with hs | hs
            · exact okc s hs
            · exact ok1 s hs
        · rintro σ H3 ⟨f, cur, v3, v4, v5, rfl, s3, hf, eM, okc, lc, u, eu⟩
          rw [List.length_map] at eM lc
          rw [List.drop_of_length_le (by rw [List.length_map]; exact Nat.le_refl _)] at eM
          simp only [allMerged] at eM
          rw [eM] at k
          have s03 := s02.trans s3
          have lc4 : cur.length ≤ 96 := by omega
          have tku := apa_ok tk okc eu
          refine ⟨(by show 1 ≤ sizeLine; decide), fun p4 n4 => ?_⟩
          refine alloc n4 fun H4 s4 e4 => ?_
          have s04 := s03.trans s4
          obtain ⟨bt', e', dxt, d, kvs, ht⟩ := (hh.same s04).tree et
          cases e'
          refine r_hbase X (hh.same s04) ?_
          refine ⟨bt, dxt, _, rfl, ht.ins, fT_no (by decide +kernel), ?_⟩
          refine ⟨_, rfl, ?_⟩
          refine ⟨bt, f, cur, t, u, rfl, ⟨dxt, d, kvs, ht⟩, hf.same s4, okc, by omega, tk.mono (by decide), eu, fun H5 v5 s5 r5 => ?_⟩
          obtain ⟨c5, rfl, dxc, dc, kc, hc⟩ := r5
          refine ⟨c5, dxc, _, rfl, hc.ins, fT_no (by decide +kernel), ?_⟩
          refine ⟨c5, u, rfl, ⟨dxc, dc, kc, hc⟩, tku.mono (by omega), fun H6 v6 s6 r6 => ?_⟩
          obtain ⟨p6, rfl, e6, _⟩ := r6
          have s46 := s5.trans s6
          refine ⟨_, _, _, _, rfl, rfl, s46 _ _ e4, e6, line_le (by
            have := tree_len tku (by omega)
            simp only [List.length_map, List.length_cons, List.length_nil]
            omega), fun p7 n7 => ?_⟩
          refine alloc n7 fun H7 s7 e7 => ?_
          have s07 := (s04.trans s46).trans s7
          refine k H7 _ (hh.offS s07) ⟨dx, _, rr, as, hh.same s07⟩ ⟨p7, rfl, ?_, Same.free (s04.trans s46) n7⟩
          rw [e7]
          show _ = some (HO.lst ((1 :: Vapatd.treeTold t cur).map V.int))
          rw [told_some eu]
          rfl
      · rw [if_neg c] at k
        refine ⟨_, rfl, ?_⟩
        refine ifT (by show (!decide (ROk l)) = true; rw [decide_eq_false c]; rfl) ?_
        refine ⟨(by show 1 ≤ sizeLine; decide), fun p np => ?_⟩
        exact k _ _ (hh.offS (s1.trans (same_upd np))) ⟨dx, _, rr, as, h1.same (same_upd np)⟩ ⟨p, rfl, upd_same, Same.free s1 np⟩
def sp_House_two (X : Txt K mg) : Sp := fun vs H Q _ => ∃ (a n m : Addr) (s : HSt) (l1 l2 : List Int), vs = [.ref a, .ref n, .ref m] ∧ HouseAt X H a s ∧ SqL K H n (l1.map V.int) ∧ SqL K H m (l2.map V.int) ∧ l1.length ≤ 1000 ∧ l2.length ≤ 1000 ∧ PostH X H a Q (Vapatd.step s (.two l1 l2))
theorem ok_House_two (X : Txt K mg) : FnOk P w K mg base CX0 10 X.m_House_two.f X.m_House_two.fd ["self", "one", "other"] (sp_House_two X) := by
  refine X.m_House_two.F.ok sc_House_two (fun vs H Q E h => ?_) (fun cdv A outer s0 H vs Q E hr h => ?_)
  · obtain ⟨a, n, m, s, l1, l2, rfl, _⟩ := h
    rfl
  · obtain ⟨a, n, m, s, l1, l2, rfl, hh, hN, hM, ln, lm, k⟩ := h
    refine ⟨_, (pss_cons (ps_set (i := 3) sc_House_two.nd rfl (.inl rfl) (pe_call (ok_read_step X) (hr.mono (by decide)) rfl X.d_read_step.g X.d_read_step.F.kp X.d_read_step.b .nil pass0 (pa_cons (pv 1) pa_nil)))
        (pss_cons (ps_set (i := 4) sc_House_two.nd rfl (.inl rfl) (pe_call (ok_read_step X) (hr.mono (by decide)) rfl X.d_read_step.g X.d_read_step.F.kp X.d_read_step.b .nil pass0 (pa_cons (pv 2) pa_nil)))
        (pss_cons (ps_if (PW.pt (pw_or (pt_cmp (pc_isN (pv 3)) rfl) (pw_or1 (pt_cmp (pc_isN (pv 4)) rfl)))) (pss_one (ps_ret (pe_lst (pa_cons (pe_glob (v := .int (-1)) rfl X.c_NO_FORM.h ⟨_, rfl⟩) pa_nil)))) pss_nil)
        (pss_cons (ps_set (i := 5) sc_House_two.nd rfl (.inl rfl) (pe_call (ok_merged X) (hr.mono (by decide)) rfl X.d_merged.g X.d_merged.F.kp X.d_merged.b .nil pass0 (pa_cons (pe_lst (pa_cons (pv 3) pa_nil)) (pa_cons (pe_lst (pa_cons (pv 4) pa_nil)) pa_nil))))
        (pss_cons (ps_if (pt_cmp (pc_isN (pv 5)) rfl) (pss_one (ps_ret (pe_lst (pa_cons pe_int pa_nil)))) pss_nil)
        (pss_one (ps_ret (pe_op op_cat (pe_op op_cat (pe_lst (pa_cons pe_int pa_nil)) (pe_meth0 (pe_ix ix_list (pe_ix ix_tup (pv 5) pe_int (fun _ _ => rfl)) pe_int (fun _ _ => rfl)) X.cl_Step X.m_Step_numbers.m (ok_Step_numbers X) (hr.mono (by decide)) X.m_Step_numbers.b .nil pass0)) (pe_meth0 (pe_ix ix_list (pe_ix ix_tup (pv 5) pe_int (fun _ _ => rfl)) pe_int (fun _ _ => rfl)) X.cl_Step X.m_Step_numbers.m (ok_Step_numbers X) (hr.mono (by decide)) X.m_Step_numbers.b .nil pass0))))))))), ?_⟩
    rw [st_two] at k
    refine ⟨_, rfl, n, l1, rfl, hN, ln, fun H1 v1 s1 r1 => ?_⟩
    refine ⟨_, rfl, m, l2, rfl, s1.seq hM, lm, fun H2 v2 s2 r2 => ?_⟩
    have s02 := s1.trans s2
    have no : ∀ p, H2 p = none → PostH X H a Q (s, [-1]) → Q (.ref p) (upd H2 p (.lst [.int (-1)])) := fun p np k => k _ _ (hh.offS (s02.trans (same_upd np))) (hh.same (s02.trans (same_upd np))) ⟨p, rfl, upd_same, Same.free s02 np⟩
    cases e1 : stepOf l1 with
    | none =>
      rw [e1] at r1 k
      cases (show v1 = .non from r1)
      refine ⟨_, rfl, _, rfl, ?_⟩
      refine ifT rfl ?_
      refine ifT rfl ?_
      refine ⟨(by show 1 ≤ sizeLine; decide), fun p np => no p np k⟩
    | some x =>
      rw [e1] at r1 k
      obtain ⟨b1, rfl, hb1⟩ := r1
      refine ⟨_, rfl, _, rfl, ?_⟩
      refine ifF rfl ?_
      cases e2 : stepOf l2 with
      | none =>
        rw [e2] at r2 k
        cases (show v2 = .non from r2)
        refine ⟨_, rfl, _, rfl, ?_⟩
        refine ifT rfl ?_
        refine ⟨(by show 1 ≤ sizeLine; decide), fun p np => no p np k⟩
      | some y =>
        rw [e2] at r2 k
        simp only at k
        obtain ⟨b2, rfl, hb2⟩ := r2
        refine ⟨_, rfl, _, rfl, ?_⟩
        refine ifF rfl ?_
        have okx := step_okk e1
        have oky := step_okk e2
        have ok1 : ∀ s ∈ [x], Okk s := fun s hs => by rw [List.mem_singleton.mp hs]; exact okx
        have ok2 : ∀ s ∈ [y], Okk s := fun s hs => by rw [List.mem_singleton.mp hs]; exact oky
        refine ⟨_, rfl, (by show 1 ≤ sizeLine; decide), fun p3 n3 => ?_⟩
        refine alloc n3 fun H3 s3 f3 => ?_
        refine ⟨_, rfl, (by show 1 ≤ sizeLine; decide), fun p4 n4 => ?_⟩
        refine alloc n4 fun H4 s4 f4 => ?_
        have s34 := s3.trans s4
        refine ⟨p3, p4, [x], [y], rfl, ⟨[b1], s4 _ _ f3, .one ((hb1.same s2).same s34)⟩, ⟨[b2], f4, .one (hb2.same s34)⟩, ok1, ok2, by show 1 ≤ 1000; decide, by show 1 ≤ 1000; decide, fun H5 v5 s5 r5 => ?_⟩
        have s05 := (s02.trans s34).trans s5
        have eo := one_one x y
        cases em : Vapatd.merged x y with
        | none =>
          rw [em] at eo k
          rw [show rowsMerged [x] [y] = none from eo] at r5
          cases (show v5 = .non from r5)
          refine ⟨_, rfl, _, rfl, ?_⟩
          refine ifT rfl ?_
          refine ⟨(by show 1 ≤ sizeLine; decide), fun p np => ?_⟩
          exact k _ _ (hh.offS (s05.trans (same_upd np))) (hh.same (s05.trans (same_upd np))) ⟨p, rfl, upd_same, Same.free s05 np⟩
        | some z =>
          rw [em] at eo k
          have eo : rowsMerged [x] [y] = some ([z.1], [z.2]) := eo
          rw [eo] at r5
          obtain ⟨okz1, okz2, _, _⟩ := rm_ok eo ok1 ok2
          obtain ⟨T, c1, c2, rfl, eT, ⟨cs1, ec1, hc1⟩, ⟨cs2, ec2, hc2⟩⟩ := r5
          cases hc1 with
          | cons hz1 hn1 =>
          cases hn1
          cases hc2 with
          | cons hz2 hn2 =>
          cases hn2
          rename_i z1 z2
          have okk1 := okz1 z.1 (by simp)
          have okk2 := okz2 z.2 (by simp)
          refine ⟨_, rfl, _, rfl, ?_⟩
          refine ifF rfl ?_
          refine ⟨(by show 1 ≤ sizeLine; decide), fun p6 n6 => ?_⟩
          refine alloc n6 fun H6 s6 f6 => ?_
          obtain ⟨dx1, o1, w1, hi1⟩ := hz1.same s6
          refine ⟨_, rfl, _, _, _, _, rfl, rfl, SqT.of (s6 _ _ eT), rfl, _, _, _, _, rfl, rfl, SqL.of (s6 _ _ ec1), rfl, z1, dx1, _, rfl, hi1.ins, fS_no (by decide +kernel), ?_⟩
          refine ⟨z1, z.1, rfl, ⟨dx1, o1, w1, hi1⟩, okk1, fun H7 v7 s7 r7 => ?_⟩
          obtain ⟨p7, rfl, f7⟩ := r7
          have fl1 := fs_len okk1
          have fl2 := fs_len okk2
          refine ⟨_, _, _, _, rfl, rfl, s7 _ _ f6, f7, line_le (by simp only [List.length_map, List.length_cons, List.length_nil]; omega), fun p8 n8 => ?_⟩
          refine alloc n8 fun H8 s8 f8 => ?_
          have s58 := (s6.trans s7).trans s8
          obtain ⟨dx2, o2, w2, hi2⟩ := hz2.same s58
          refine ⟨_, rfl, _, _, _, _, rfl, rfl, SqT.of (s58 _ _ eT), rfl, _, _, _, _, rfl, rfl, SqL.of (s58 _ _ ec2), rfl, z2, dx2, _, rfl, hi2.ins, fS_no (by decide +kernel), ?_⟩
          refine ⟨z2, z.2, rfl, ⟨dx2, o2, w2, hi2⟩, okk2, fun H9 v9 s9 r9 => ?_⟩
          obtain ⟨p9, rfl, f9⟩ := r9
          refine ⟨_, _, _, _, rfl, rfl, s9 _ _ f8, f9, line_le (by simp only [List.length_map, List.length_cons, List.length_nil, List.length_append]; omega), fun p10 n10 => ?_⟩
          refine alloc n10 fun H10 s10 f10 => ?_
          have sA := ((s05.trans s58).trans s9).trans s10
          refine k H10 _ (hh.offS sA) (hh.same sA) ⟨p10, rfl, ?_, Same.free ((s05.trans s58).trans s9) n10⟩
          rw [f10]
          simp
end
end Rw

/-! part RwMain -/
set_option Elab.async false
set_option linter.all false
set_option maxRecDepth 100000
set_option maxHeartbeats 4000000
namespace Rw
open PySem PySem.Spec PyProof.Rows L2
open VapatBase (Tokens)
/-! The calls, one after the other. -/
open VapatBase (applied appliedAll fileIn flatSteps flatTree)
open Vapatd (State rowsMerged allConflicts allMerged once)
open RM (stepOf treeOf at0)
/-! ### the states stay good -/
theorem good_step {s : HSt} (g : Good s) (c : Vapatd.Call) : Good (Vapatd.step s c).1 := by
  cases c with
  | tree l =>
    have es : Vapatd.step s (.tree l) = match treeOf l with
      | none => (s, [-1])
      | some t => (⟨some t, List.replicate Vapatd.ROWS []⟩, [Vapatd.int t.length]) := by
      rw [← RM.tree_is]
      rfl
    rw [es]
    cases et : treeOf l with
    | none => exact g
    | some t => exact good_tree et
  | step r l =>
    rw [st_step]
    rcases row_cases g r with ⟨e, _, eo⟩ | ⟨_, t, n, row, et, rfl, hn, er, eo⟩
    · rw [eo]
      exact g
    · rw [eo, RM.step_is]
      obtain ⟨lr, okr, u, eu⟩ := g.row t et row (List.mem_of_getElem? er)
      cases es : stepOf l with
      | none => exact g
      | some x =>
        simp only
        split
        · exact g
        · rename_i c8
          cases ea : applied u x with
          | none =>
            have : ((appliedAll t row).bind fun u => applied u x) = none := by rw [eu]; exact ea
            rw [this]
            exact g
          | some v =>
            have : ((appliedAll t row).bind fun u => applied u x) = some v := by rw [eu]; exact ea
            rw [this]
            refine g.set fun t' et' => ?_
            rw [et] at et'
            cases et'
            unfold Vapatd.ROW at c8
            refine ⟨by rw [List.length_append, List.length_singleton]; omega, fun s hs => ?_, v, RM.apa_app_iff.mpr ⟨u, eu, RM.apa_cons.mpr ⟨v, ea, rfl⟩⟩⟩
            rcases List.mem_append.mp hs with hs | hs
            · exact okr s hs
            · rw [List.mem_singleton.mp hs]
              exact step_okk es
  | drop r =>
    rw [st_drop]
    rcases row_cases g r with ⟨e, _, eo⟩ | ⟨_, t, n, row, et, rfl, hn, er, eo⟩
    · rw [eo]
      exact g
    · rw [eo]
      exact g.set fun _ _ => ⟨Nat.zero_le _, fun _ h => (nomatch h), _, rfl⟩
  | pull r q =>
    rw [st_pull]
    rcases rows_cases g r q with ⟨e, _, eo⟩ | ⟨_, t, n, m, a, b, et, rfl, rfl, hn, hm, _, ea, eb, eo⟩
    · rw [eo]
      exact g
    · rw [eo]
      obtain ⟨la, oka, ua, eua⟩ := g.row t et a (List.mem_of_getElem? ea)
      obtain ⟨lb, okb, ub, eub⟩ := g.row t et b (List.mem_of_getElem? eb)
      cases em : rowsMerged a b with
      | none => exact g
      | some x =>
        simp only
        split
        · exact g
        · rename_i c
          obtain ⟨ok1, _, l1, _⟩ := rm_ok em oka okb
          refine g.set fun t' et' => ?_
          rw [et] at et'
          cases et'
          unfold Vapatd.LONG at c
          refine ⟨by rw [List.length_append, l1]; omega, fun s hs => ?_, merged_on em (g.tk t et).srt eua eub⟩
          rcases List.mem_append.mp hs with hs | hs
          · exact oka s hs
          · exact ok1 s hs
  | two p q =>
    rw [st_two]
    split
    · split <;> exact g
    · exact g
  | all l =>
    rw [st_all]
    unfold Vapatd.onTree
    split <;> exact g

  | shown r =>
    rw [st_shown]
    rcases row_cases g r with ⟨e, _, eo⟩ | ⟨_, t, n, row, et, rfl, hn, er, eo⟩
    · rw [eo]
      exact g
    · rw [eo]
      exact g
  | outcome r =>
    rw [st_outcome]
    rcases row_cases g r with ⟨e, _, eo⟩ | ⟨_, t, n, row, et, rfl, hn, er, eo⟩
    · rw [eo]
      exact g
    · rw [eo]
      exact g
  | merge r q =>
    rw [st_merge]
    rcases rows_cases g r q with ⟨e, _, eo⟩ | ⟨_, t, n, m, a, b, et, rfl, rfl, hn, hm, _, ea, eb, eo⟩
    · rw [eo]
      exact g
    · rw [eo]
      exact g
  | sides r q =>
    rw [st_sides]
    rcases rows_cases g r q with ⟨e, _, eo⟩ | ⟨_, t, n, m, a, b, et, rfl, rfl, hn, hm, _, ea, eb, eo⟩
    · rw [eo]
      exact g
    · rw [eo]
      exact g
  | conflicts r q =>
    rw [st_conflicts]
    rcases rows_cases g r q with ⟨e, _, eo⟩ | ⟨_, t, n, m, a, b, et, rfl, rfl, hn, hm, _, ea, eb, eo⟩
    · rw [eo]
      exact g
    · rw [eo]
      exact g
  | clean r q =>
    rw [st_clean]
    rcases rows_cases g r q with ⟨e, _, eo⟩ | ⟨_, t, n, m, a, b, et, rfl, rfl, hn, hm, _, ea, eb, eo⟩
    · rw [eo]
      exact g
    · rw [eo]
      exact g
/-! ### the kinds of calls -/
inductive RowC : Int → List Int → List (List Int) → Vapatd.Call → Prop where
  | tree (l : List Int) : RowC 0 [] [l] (.tree l)
  | step (r : Int) (l : List Int) : RowC 1 [r] [l] (.step r l)
  | shown (r : Int) : RowC 2 [r] [] (.shown r)
  | outcome (r : Int) : RowC 3 [r] [] (.outcome r)
  | all (l : List Int) : RowC 8 [] [l] (.all l)
  | drop (r : Int) : RowC 10 [r] [] (.drop r)
  | two (l m : List Int) : RowC 11 [] [l, m] (.two l m)
inductive TwoC : Int → List Int → Vapatd.Call → Prop where
  | merge (r q : Int) : TwoC 4 [r, q] (.merge r q)
  | sides (r q : Int) : TwoC 5 [r, q] (.sides r q)
  | conflicts (r q : Int) : TwoC 6 [r, q] (.conflicts r q)
  | clean (r q : Int) : TwoC 7 [r, q] (.clean r q)
  | pull (r q : Int) : TwoC 9 [r, q] (.pull r q)
def numsL : List Int := [0, 1, 1, 1, 2, 2, 2, 2, 0, 2, 1, 0]
def rowsL : List Int := [1, 1, 0, 0, 0, 0, 0, 0, 1, 0, 0, 2]
theorem call_kind {p : Int} {ns : List Int} {xs : List (List Int)} {n k : Nat} (h : PyVapatd.shape p = some (n, k)) (hn : ns.length = n) (hk : xs.length = k) (b : PyInside.call PyVapatd.bound ((p :: ns) :: xs) = true) :
    atI (numsL.map V.int) p = some (.int (n : Int)) ∧ atI (rowsL.map V.int) p = some (.int (k : Int)) ∧ k ≤ 2 ∧ (∀ x ∈ xs, x.length ≤ 1000) ∧ ∃ c, VapatdNeutral.callOf (PyVapatd.whole ((p :: ns) :: xs)) = some c ∧ ((n ≠ 2 ∧ RowC p ns xs c) ∨ (n = 2 ∧ TwoC p ns c)) := by
  unfold PyVapatd.shape at h
  split at h
  · rename_i e
    subst e
    cases h
    match ns, hn, xs, hk, b with
    | [], _, [l], _, b =>
      simp [PyInside.call, PyInside.each, PyInside.lists, PyVapatd.bound] at b
      refine ⟨rfl, rfl, by decide, fun x hx => ?_, _, rfl, .inl ⟨by decide, .tree l⟩⟩
      simp at hx
      subst hx
      omega
  split at h
  · rename_i e
    subst e
    cases h
    match ns, hn, xs, hk, b with
    | [r], _, [l], _, b =>
      simp [PyInside.call, PyInside.each, PyInside.lists, PyVapatd.bound] at b
      refine ⟨rfl, rfl, by decide, fun x hx => ?_, _, rfl, .inl ⟨by decide, .step r l⟩⟩
      simp at hx
      subst hx
      omega
  split at h
  · rename_i e
    subst e
    cases h
    match ns, hn, xs, hk, b with
    | [r], _, [], _, b =>
      exact ⟨rfl, rfl, by decide, fun _ h => (nomatch h), _, rfl, .inl ⟨by decide, .shown r⟩⟩
  split at h
  · rename_i e
    subst e
    cases h
    match ns, hn, xs, hk, b with
    | [r], _, [], _, b =>
      exact ⟨rfl, rfl, by decide, fun _ h => (nomatch h), _, rfl, .inl ⟨by decide, .outcome r⟩⟩
  split at h
  · rename_i e
    subst e
    cases h
    match ns, hn, xs, hk, b with
    | [r, q], _, [], _, b =>
      exact ⟨rfl, rfl, by decide, fun _ h => (nomatch h), _, rfl, .inr ⟨rfl, .merge r q⟩⟩
  split at h
  · rename_i e
    subst e
    cases h
    match ns, hn, xs, hk, b with
    | [r, q], _, [], _, b =>
      exact ⟨rfl, rfl, by decide, fun _ h => (nomatch h), _, rfl, .inr ⟨rfl, .sides r q⟩⟩
  split at h
  · rename_i e
    subst e
    cases h
    match ns, hn, xs, hk, b with
    | [r, q], _, [], _, b =>
      exact ⟨rfl, rfl, by decide, fun _ h => (nomatch h), _, rfl, .inr ⟨rfl, .conflicts r q⟩⟩
  split at h
  · rename_i e
    subst e
    cases h
    match ns, hn, xs, hk, b with
    | [r, q], _, [], _, b =>
      exact ⟨rfl, rfl, by decide, fun _ h => (nomatch h), _, rfl, .inr ⟨rfl, .clean r q⟩⟩
  split at h
  · rename_i e
    subst e
    cases h
    match ns, hn, xs, hk, b with
    | [], _, [l], _, b =>
      simp [PyInside.call, PyInside.each, PyInside.lists, PyVapatd.bound] at b
      refine ⟨rfl, rfl, by decide, fun x hx => ?_, _, rfl, .inl ⟨by decide, .all l⟩⟩
      simp at hx
      subst hx
      omega
  split at h
  · rename_i e
    subst e
    cases h
    match ns, hn, xs, hk, b with
    | [r, q], _, [], _, b =>
      exact ⟨rfl, rfl, by decide, fun _ h => (nomatch h), _, rfl, .inr ⟨rfl, .pull r q⟩⟩
  split at h
  · rename_i e
    subst e
    cases h
    match ns, hn, xs, hk, b with
    | [r], _, [], _, b =>
      exact ⟨rfl, rfl, by decide, fun _ h => (nomatch h), _, rfl, .inl ⟨by decide, .drop r⟩⟩
  split at h
  · rename_i e
    subst e
    cases h
    match ns, hn, xs, hk, b with
    | [], _, [l, m], _, b =>
      simp [PyInside.call, PyInside.each, PyInside.lists, PyVapatd.bound] at b
      refine ⟨rfl, rfl, by decide, fun x hx => ?_, _, rfl, .inl ⟨by decide, .two l m⟩⟩
      simp at hx
      rcases hx with rfl | rfl <;> omega
  cases h
section
variable {P : Program} {w : World} {K : PySem.W.Frag} {mg : Str → Option Value} {base : Heap}

def sp_told_of_row (X : Txt K mg) : Sp := fun vs H Q _ => ∃ (a n r : Addr) (p : Int) (s : HSt) (ns : List Int) (xs : List (List Int)) (bs : List Addr) (c : Vapatd.Call), vs = [.ref a, .int p, .ref n, .ref r] ∧ HouseAt X H a s ∧ Good s ∧ H n = some (.lst (ns.map V.int)) ∧ H r = some (.lst (bs.map V.ref)) ∧
  Two (fun b x => H b = some (.lst (x.map V.int))) bs xs ∧ (∀ x ∈ xs, x.length ≤ 1000) ∧ RowC p ns xs c ∧ PostH X H a Q (Vapatd.step s c)
theorem ok_told_of_row (X : Txt K mg) : FnOk P w K mg base CX0 11 X.d_told_of_row.f X.d_told_of_row.fd ["house", "kind", "n", "rows"] (sp_told_of_row X) := by
  refine X.d_told_of_row.F.ok sc_told_of_row (fun vs H Q E h => ?_) (fun cdv A outer s0 H vs Q E hr h => ?_)
  · obtain ⟨a, n, r, p, s, ns, xs, bs, c, rfl, _⟩ := h
    rfl
  · obtain ⟨a, n, r, p, s, ns, xs, bs, c, rfl, hh, g, eN, eR, hbs, hx, hc, k⟩ := h
    refine ⟨_, (pss_cons (ps_if (pt_cmpR op_eq (pv 1) pe_int (nomark _)) (pss_one (ps_ret (pe_meth (pv 0) X.cl_House X.m_House_set_tree.m (ok_House_set_tree X) (hr.mono (by decide)) X.m_House_set_tree.b .nil pass0 (pa_cons (pe_ix ix_list (pv 3) pe_int (fun _ _ => rfl)) pa_nil)))) pss_nil)
        (pss_cons (ps_if (pt_cmpR op_eq (pv 1) pe_int (nomark _)) (pss_one (ps_ret (pe_meth (pv 0) X.cl_House X.m_House_add_step.m (ok_House_add_step X) (hr.mono (by decide)) X.m_House_add_step.b .nil pass0 (pa_cons (pe_ix ix_list (pv 2) pe_int (fun _ _ => rfl)) (pa_cons (pe_ix ix_list (pv 3) pe_int (fun _ _ => rfl)) pa_nil))))) pss_nil)
        (pss_cons (ps_if (pt_cmpR op_eq (pv 1) pe_int (nomark _)) (pss_one (ps_ret (pe_meth (pv 0) X.cl_House X.m_House_shown.m (ok_House_shown X) (hr.mono (by decide)) X.m_House_shown.b .nil pass0 (pa_cons (pe_ix ix_list (pv 2) pe_int (fun _ _ => rfl)) pa_nil)))) pss_nil)
        (pss_cons (ps_if (pt_cmpR op_eq (pv 1) pe_int (nomark _)) (pss_one (ps_ret (pe_meth (pv 0) X.cl_House X.m_House_outcome.m (ok_House_outcome X) (hr.mono (by decide)) X.m_House_outcome.b .nil pass0 (pa_cons (pe_ix ix_list (pv 2) pe_int (fun _ _ => rfl)) pa_nil)))) pss_nil)
        (pss_cons (ps_if (pt_cmpR op_eq (pv 1) pe_int (nomark _)) (pss_one (ps_ret (pe_meth (pv 0) X.cl_House X.m_House_all_merged.m (ok_House_all_merged X) (hr.mono (by decide)) X.m_House_all_merged.b .nil pass0 (pa_cons (pe_ix ix_list (pv 3) pe_int (fun _ _ => rfl)) pa_nil)))) pss_nil)
        (pss_cons (ps_if (pt_cmpR op_eq (pv 1) pe_int (nomark _)) (pss_one (ps_ret (pe_meth (pv 0) X.cl_House X.m_House_drop.m (ok_House_drop X) (hr.mono (by decide)) X.m_House_drop.b .nil pass0 (pa_cons (pe_ix ix_list (pv 2) pe_int (fun _ _ => rfl)) pa_nil)))) pss_nil)
        (pss_one (ps_ret (pe_meth (pv 0) X.cl_House X.m_House_two.m (ok_House_two X) (hr.mono (by decide)) X.m_House_two.b .nil pass0 (pa_cons (pe_ix ix_list (pv 3) pe_int (fun _ _ => rfl)) (pa_cons (pe_ix ix_list (pv 3) pe_int (fun _ _ => rfl)) pa_nil))))))))))), ?_⟩
    cases hc with
    | tree l =>
      cases hbs with
      | cons e1 hn =>
      cases hn
      rename_i b1
      refine ⟨_, rfl, rfl, _, rfl, ?_⟩
      rw [dec_i]
      refine ifT rfl ?_
      obtain ⟨dx, vb, rr, as, h0⟩ := hh
      have hh : HouseAt X H a s := ⟨dx, vb, rr, as, h0⟩
      refine r_hmeth X h0 ?_
      exact ⟨_, rfl, _, _, _, _, rfl, rfl, SqL.of eR, rfl, a, b1, s, l, rfl, hh, SqL.of e1, hx _ (by simp), k⟩
    | step r l =>
      cases hbs with
      | cons e1 hn =>
      cases hn
      rename_i b1
      refine ⟨_, rfl, rfl, _, rfl, ?_⟩
      rw [dec_i]
      refine ifF rfl ?_
      refine ⟨_, rfl, rfl, _, rfl, ?_⟩
      rw [dec_i]
      refine ifT rfl ?_
      obtain ⟨dx, vb, rr, as, h0⟩ := hh
      have hh : HouseAt X H a s := ⟨dx, vb, rr, as, h0⟩
      refine r_hmeth X h0 ?_
      exact ⟨_, rfl, _, _, _, _, rfl, rfl, SqL.of eN, rfl, _, rfl, _, _, _, _, rfl, rfl, SqL.of eR, rfl, a, b1, r, s, l, rfl, hh, g, SqL.of e1, hx _ (by simp), k⟩
    | shown r =>
      refine ⟨_, rfl, rfl, _, rfl, ?_⟩
      rw [dec_i]
      refine ifF rfl ?_
      refine ⟨_, rfl, rfl, _, rfl, ?_⟩
      rw [dec_i]
      refine ifF rfl ?_
      refine ⟨_, rfl, rfl, _, rfl, ?_⟩
      rw [dec_i]
      refine ifT rfl ?_
      obtain ⟨dx, vb, rr, as, h0⟩ := hh
      have hh : HouseAt X H a s := ⟨dx, vb, rr, as, h0⟩
      refine r_hmeth X h0 ?_
      exact ⟨_, rfl, _, _, _, _, rfl, rfl, SqL.of eN, rfl, a, r, s, rfl, hh, g, k⟩
    | outcome r =>
      refine ⟨_, rfl, rfl, _, rfl, ?_⟩
      rw [dec_i]
      refine ifF rfl ?_
      refine ⟨_, rfl, rfl, _, rfl, ?_⟩
      rw [dec_i]
      refine ifF rfl ?_
      refine ⟨_, rfl, rfl, _, rfl, ?_⟩
      rw [dec_i]
      refine ifF rfl ?_
      refine ⟨_, rfl, rfl, _, rfl, ?_⟩
      rw [dec_i]
      refine ifT rfl ?_
      obtain ⟨dx, vb, rr, as, h0⟩ := hh
      have hh : HouseAt X H a s := ⟨dx, vb, rr, as, h0⟩
      refine r_hmeth X h0 ?_
      exact ⟨_, rfl, _, _, _, _, rfl, rfl, SqL.of eN, rfl, a, r, s, rfl, hh, g, k⟩
    | all l =>
      cases hbs with
      | cons e1 hn =>
      cases hn
      rename_i b1
      refine ⟨_, rfl, rfl, _, rfl, ?_⟩
      rw [dec_i]
      refine ifF rfl ?_
      refine ⟨_, rfl, rfl, _, rfl, ?_⟩
      rw [dec_i]
      refine ifF rfl ?_
      refine ⟨_, rfl, rfl, _, rfl, ?_⟩
      rw [dec_i]
      refine ifF rfl ?_
      refine ⟨_, rfl, rfl, _, rfl, ?_⟩
      rw [dec_i]
      refine ifF rfl ?_
      refine ⟨_, rfl, rfl, _, rfl, ?_⟩
      rw [dec_i]
      refine ifT rfl ?_
      obtain ⟨dx, vb, rr, as, h0⟩ := hh
      have hh : HouseAt X H a s := ⟨dx, vb, rr, as, h0⟩
      refine r_hmeth X h0 ?_
      exact ⟨_, rfl, _, _, _, _, rfl, rfl, SqL.of eR, rfl, a, b1, s, l, rfl, hh, g, SqL.of e1, hx _ (by simp), k⟩
    | drop r =>
      refine ⟨_, rfl, rfl, _, rfl, ?_⟩
      rw [dec_i]
      refine ifF rfl ?_
      refine ⟨_, rfl, rfl, _, rfl, ?_⟩
      rw [dec_i]
      refine ifF rfl ?_
      refine ⟨_, rfl, rfl, _, rfl, ?_⟩
      rw [dec_i]
      refine ifF rfl ?_
      refine ⟨_, rfl, rfl, _, rfl, ?_⟩
      rw [dec_i]
      refine ifF rfl ?_
      refine ⟨_, rfl, rfl, _, rfl, ?_⟩
      rw [dec_i]
      refine ifF rfl ?_
      refine ⟨_, rfl, rfl, _, rfl, ?_⟩
      rw [dec_i]
      refine ifT rfl ?_
      obtain ⟨dx, vb, rr, as, h0⟩ := hh
      have hh : HouseAt X H a s := ⟨dx, vb, rr, as, h0⟩
      refine r_hmeth X h0 ?_
      exact ⟨_, rfl, _, _, _, _, rfl, rfl, SqL.of eN, rfl, a, r, s, rfl, hh, g, k⟩
    | two l m =>
      cases hbs with
      | cons e1 hn =>
      cases hn with
      | cons e2 hn =>
      cases hn
      rename_i b1 b2
      refine ⟨_, rfl, rfl, _, rfl, ?_⟩
      rw [dec_i]
      refine ifF rfl ?_
      refine ⟨_, rfl, rfl, _, rfl, ?_⟩
      rw [dec_i]
      refine ifF rfl ?_
      refine ⟨_, rfl, rfl, _, rfl, ?_⟩
      rw [dec_i]
      refine ifF rfl ?_
      refine ⟨_, rfl, rfl, _, rfl, ?_⟩
      rw [dec_i]
      refine ifF rfl ?_
      refine ⟨_, rfl, rfl, _, rfl, ?_⟩
      rw [dec_i]
      refine ifF rfl ?_
      refine ⟨_, rfl, rfl, _, rfl, ?_⟩
      rw [dec_i]
      refine ifF rfl ?_
      obtain ⟨dx, vb, rr, as, h0⟩ := hh
      have hh : HouseAt X H a s := ⟨dx, vb, rr, as, h0⟩
      refine r_hmeth X h0 ?_
      exact ⟨_, rfl, _, _, _, _, rfl, rfl, SqL.of eR, rfl, _, rfl, _, _, _, _, rfl, rfl, SqL.of eR, (rfl : atI ([b1, b2].map V.ref) 1 = some (V.ref b2)), a, b1, b2, s, l, m, rfl, hh, SqL.of e1, SqL.of e2, hx _ (by simp), hx _ (by simp), k⟩
def sp_told_of_two (X : Txt K mg) : Sp := fun vs H Q _ => ∃ (a n : Addr) (p : Int) (s : HSt) (ns : List Int) (c : Vapatd.Call), vs = [.ref a, .int p, .ref n] ∧ HouseAt X H a s ∧ Good s ∧ H n = some (.lst (ns.map V.int)) ∧ TwoC p ns c ∧ PostH X H a Q (Vapatd.step s c)
theorem ok_told_of_two (X : Txt K mg) : FnOk P w K mg base CX0 13 X.d_told_of_two.f X.d_told_of_two.fd ["house", "kind", "n"] (sp_told_of_two X) := by
  refine X.d_told_of_two.F.ok sc_told_of_two (fun vs H Q E h => ?_) (fun cdv A outer s0 H vs Q E hr h => ?_)
  · obtain ⟨a, n, p, s, ns, c, rfl, _⟩ := h
    rfl
  · obtain ⟨a, n, p, s, ns, c, rfl, hh, g, eN, hc, k⟩ := h
    refine ⟨_, (pss_cons (ps_if (pt_cmpR op_eq (pv 1) pe_int (nomark _)) (pss_one (ps_ret (pe_meth (pv 0) X.cl_House X.m_House_merge.m (ok_House_merge X) (hr.mono (by decide)) X.m_House_merge.b .nil pass0 (pa_cons (pe_ix ix_list (pv 2) pe_int (fun _ _ => rfl)) (pa_cons (pe_ix ix_list (pv 2) pe_int (fun _ _ => rfl)) pa_nil))))) pss_nil)
        (pss_cons (ps_if (pt_cmpR op_eq (pv 1) pe_int (nomark _)) (pss_one (ps_ret (pe_meth (pv 0) X.cl_House X.m_House_sides.m (ok_House_sides X) (hr.mono (by decide)) X.m_House_sides.b .nil pass0 (pa_cons (pe_ix ix_list (pv 2) pe_int (fun _ _ => rfl)) (pa_cons (pe_ix ix_list (pv 2) pe_int (fun _ _ => rfl)) pa_nil))))) pss_nil)
        (pss_cons (ps_if (pt_cmpR op_eq (pv 1) pe_int (nomark _)) (pss_one (ps_ret (pe_meth (pv 0) X.cl_House X.m_House_conflicts.m (ok_House_conflicts X) (hr.mono (by decide)) X.m_House_conflicts.b .nil pass0 (pa_cons (pe_ix ix_list (pv 2) pe_int (fun _ _ => rfl)) (pa_cons (pe_ix ix_list (pv 2) pe_int (fun _ _ => rfl)) pa_nil))))) pss_nil)
        (pss_cons (ps_if (pt_cmpR op_eq (pv 1) pe_int (nomark _)) (pss_one (ps_ret (pe_meth (pv 0) X.cl_House X.m_House_clean.m (ok_House_clean X) (hr.mono (by decide)) X.m_House_clean.b .nil pass0 (pa_cons (pe_ix ix_list (pv 2) pe_int (fun _ _ => rfl)) (pa_cons (pe_ix ix_list (pv 2) pe_int (fun _ _ => rfl)) pa_nil))))) pss_nil)
        (pss_one (ps_ret (pe_meth (pv 0) X.cl_House X.m_House_pull.m (ok_House_pull X) (hr.mono (by decide)) X.m_House_pull.b .nil pass0 (pa_cons (pe_ix ix_list (pv 2) pe_int (fun _ _ => rfl)) (pa_cons (pe_ix ix_list (pv 2) pe_int (fun _ _ => rfl)) pa_nil))))))))), ?_⟩
    cases hc with
    | merge r q =>
      refine ⟨_, rfl, rfl, _, rfl, ?_⟩
      rw [dec_i]
      refine ifT rfl ?_
      obtain ⟨dx, vb, rr, as, h0⟩ := hh
      have hh : HouseAt X H a s := ⟨dx, vb, rr, as, h0⟩
      refine r_hmeth X h0 ?_
      exact ⟨_, rfl, _, _, _, _, rfl, rfl, SqL.of eN, rfl, _, rfl, _, _, _, _, rfl, rfl, SqL.of eN, (rfl : atI ([r, q].map V.int) 1 = some (V.int q)), a, r, q, s, rfl, hh, g, k⟩
    | sides r q =>
      refine ⟨_, rfl, rfl, _, rfl, ?_⟩
      rw [dec_i]
      refine ifF rfl ?_
      refine ⟨_, rfl, rfl, _, rfl, ?_⟩
      rw [dec_i]
      refine ifT rfl ?_
      obtain ⟨dx, vb, rr, as, h0⟩ := hh
      have hh : HouseAt X H a s := ⟨dx, vb, rr, as, h0⟩
      refine r_hmeth X h0 ?_
      exact ⟨_, rfl, _, _, _, _, rfl, rfl, SqL.of eN, rfl, _, rfl, _, _, _, _, rfl, rfl, SqL.of eN, (rfl : atI ([r, q].map V.int) 1 = some (V.int q)), a, r, q, s, rfl, hh, g, k⟩
    | conflicts r q =>
      refine ⟨_, rfl, rfl, _, rfl, ?_⟩
      rw [dec_i]
      refine ifF rfl ?_
      refine ⟨_, rfl, rfl, _, rfl, ?_⟩
      rw [dec_i]
      refine ifF rfl ?_
      refine ⟨_, rfl, rfl, _, rfl, ?_⟩
      rw [dec_i]
      refine ifT rfl ?_
      obtain ⟨dx, vb, rr, as, h0⟩ := hh
      have hh : HouseAt X H a s := ⟨dx, vb, rr, as, h0⟩
      refine r_hmeth X h0 ?_
      exact ⟨_, rfl, _, _, _, _, rfl, rfl, SqL.of eN, rfl, _, rfl, _, _, _, _, rfl, rfl, SqL.of eN, (rfl : atI ([r, q].map V.int) 1 = some (V.int q)), a, r, q, s, rfl, hh, g, k⟩
    | clean r q =>
      refine ⟨_, rfl, rfl, _, rfl, ?_⟩
      rw [dec_i]
      refine ifF rfl ?_
      refine ⟨_, rfl, rfl, _, rfl, ?_⟩
      rw [dec_i]
      refine ifF rfl ?_
      refine ⟨_, rfl, rfl, _, rfl, ?_⟩
      rw [dec_i]
      refine ifF rfl ?_
      refine ⟨_, rfl, rfl, _, rfl, ?_⟩
      rw [dec_i]
      refine ifT rfl ?_
      obtain ⟨dx, vb, rr, as, h0⟩ := hh
      have hh : HouseAt X H a s := ⟨dx, vb, rr, as, h0⟩
      refine r_hmeth X h0 ?_
      exact ⟨_, rfl, _, _, _, _, rfl, rfl, SqL.of eN, rfl, _, rfl, _, _, _, _, rfl, rfl, SqL.of eN, (rfl : atI ([r, q].map V.int) 1 = some (V.int q)), a, r, q, s, rfl, hh, g, k⟩
    | pull r q =>
      refine ⟨_, rfl, rfl, _, rfl, ?_⟩
      rw [dec_i]
      refine ifF rfl ?_
      refine ⟨_, rfl, rfl, _, rfl, ?_⟩
      rw [dec_i]
      refine ifF rfl ?_
      refine ⟨_, rfl, rfl, _, rfl, ?_⟩
      rw [dec_i]
      refine ifF rfl ?_
      refine ⟨_, rfl, rfl, _, rfl, ?_⟩
      rw [dec_i]
      refine ifF rfl ?_
      obtain ⟨dx, vb, rr, as, h0⟩ := hh
      have hh : HouseAt X H a s := ⟨dx, vb, rr, as, h0⟩
      refine r_hmeth X h0 ?_
      exact ⟨_, rfl, _, _, _, _, rfl, rfl, SqL.of eN, rfl, _, rfl, _, _, _, _, rfl, rfl, SqL.of eN, (rfl : atI ([r, q].map V.int) 1 = some (V.int q)), a, r, q, s, rfl, hh, g, k⟩
end
end Rw

/-! part RwEnd -/
set_option Elab.async false
set_option linter.all false
set_option maxRecDepth 100000
set_option maxHeartbeats 4000000
namespace Rw
open PySem PySem.Spec PyProof.Rows L2
open VapatBase (Tokens)
/-! The answers: the calls read, each told. -/
open VapatBase (applied appliedAll fileIn flatSteps flatTree)
open Vapatd (State rowsMerged allConflicts allMerged once)
open RM (stepOf treeOf at0)
/-- what is still to be answered -/
def Rest (l A : List Int) (i : Nat) (F : List Int) (s : HSt) : Prop := ∃ (fuel : Nat) (cs : List (List (List Int))), PyFlat.calls PyVapatd.shape fuel (l.drop i) = some cs ∧ cs.all (PyInside.call PyVapatd.bound) = true ∧ A = F ++ PyFlat.told (PyFlat.played VapatdNeutral.step s (cs.map PyVapatd.whole))
theorem rest_start {l : List Int} (h : PyVapatd.answers_asked l = true) : Rest l (PyVapatd.answers l) 0 [] Vapatd.start ∧ (PyVapatd.answers l).length ≤ 10000000 := by
  unfold PyVapatd.answers_asked at h
  cases e : PyFlat.calls PyVapatd.shape l.length l with
  | none => rw [e] at h; cases h
  | some raw =>
    rw [e] at h
    simp only [Bool.and_eq_true] at h
    obtain ⟨⟨⟨_, h2⟩, _⟩, h5⟩ := h
    refine ⟨⟨l.length, raw, e, h2, ?_⟩, of_decide_eq_true h5⟩
    unfold PyVapatd.answers PyVapatd.calls
    rw [e]
    rfl
theorem rest_end {l A F : List Int} {i : Nat} {s : HSt} (h : Rest l A i F s) (hi : l.length ≤ i) : A = F := by
  obtain ⟨fuel, cs, h1, _, h3⟩ := h
  rw [List.drop_of_length_le hi] at h1
  have : cs = [] := by
    cases fuel <;> (simp only [PyFlat.calls, Option.some.injEq] at h1; exact h1.symm)
  rw [h3, this]
  simp [PyFlat.played, PyFlat.told]
theorem rows_len : ∀ {k : Nat} {r t : List Int} {xs : List (List Int)}, PyFlat.rows k r = some (xs, t) → xs.length = k
  | 0, r, t, xs, h => by
    simp only [PyFlat.rows, Option.some.injEq, Prod.mk.injEq] at h
    rw [← h.1]
    rfl
  | k + 1, r, t, xs, h => by
    simp only [PyFlat.rows] at h
    cases e : PyFlat.row r with
    | none => rw [e] at h; cases h
    | some y =>
      rw [e] at h
      simp only at h
      cases e2 : PyFlat.rows k y.2 with
      | none => rw [e2] at h; cases h
      | some z =>
        rw [e2] at h
        simp only [Option.some.injEq, Prod.mk.injEq] at h
        rw [← h.1, List.length_cons, rows_len (t := z.2) (xs := z.1) e2]
theorem drop_at {l : List Int} {i : Nat} (h : i < l.length) : l.drop i = at0 l i :: l.drop (i + 1) := by
  rw [← List.getElem_cons_drop h]
  congr 1
  simp [at0, List.getElem?_eq_getElem h]
theorem rows_turn {l t : List Int} {m e : Nat} {xs : List (List Int)} (h : PyFlat.rows (m + 1) (l.drop e) = some (xs, t)) :
    e < l.length ∧ 0 ≤ at0 l e ∧ e + 1 + (at0 l e).toNat ≤ l.length ∧ ∃ ys, xs = (l.drop (e + 1)).take (at0 l e).toNat :: ys ∧ PyFlat.rows m (l.drop (e + 1 + (at0 l e).toNat)) = some (ys, t) := by
  by_cases he : e < l.length
  · rw [drop_at he] at h
    simp only [PyFlat.rows, PyFlat.row] at h
    by_cases c : 0 ≤ at0 l e ∧ (at0 l e).toNat ≤ (l.drop (e + 1)).length
    · rw [if_pos c] at h
      simp only [List.drop_drop] at h
      cases e2 : PyFlat.rows m (l.drop (e + 1 + (at0 l e).toNat)) with
      | none => rw [e2] at h; cases h
      | some z =>
        rw [e2] at h
        simp only [Option.some.injEq, Prod.mk.injEq] at h
        obtain ⟨c1, c2⟩ := c
        rw [List.length_drop] at c2
        exact ⟨he, c1, by omega, z.1, h.1.symm, by rw [← h.2]⟩
    · rw [if_neg c] at h
      cases h
  · rw [List.drop_of_length_le (by omega)] at h
    simp only [PyFlat.rows, PyFlat.row] at h
    cases h
theorem rest_step {l A F : List Int} {i : Nat} {s : HSt} (h : Rest l A i F s) (hi : i < l.length) :
    ∃ (n k : Nat) (xs : List (List Int)) (t : List Int) (c : Vapatd.Call), atI (numsL.map V.int) (at0 l i) = some (.int (n : Int)) ∧ atI (rowsL.map V.int) (at0 l i) = some (.int (k : Int)) ∧ k ≤ 2 ∧ (∀ x ∈ xs, x.length ≤ 1000) ∧
      ((n ≠ 2 ∧ RowC (at0 l i) ((l.drop (i + 1)).take n) xs c) ∨ (n = 2 ∧ TwoC (at0 l i) ((l.drop (i + 1)).take n) c)) ∧ i + 1 + n ≤ l.length ∧ PyFlat.rows k (l.drop (i + 1 + n)) = some (xs, t) ∧
      ∀ e, t = l.drop e → Rest l A e (F ++ (((Vapatd.step s c).2.length : Nat) : Int) :: (Vapatd.step s c).2) (Vapatd.step s c).1 := by
  obtain ⟨fuel, cs, h1, h2, h3⟩ := h
  rw [drop_at hi] at h1
  cases fuel with
  | zero =>
    simp only [PyFlat.calls] at h1
    cases h1
  | succ fuel =>
    simp only [PyFlat.calls, PyFlat.call] at h1
    cases es : PyVapatd.shape (at0 l i) with
    | none => rw [es] at h1; cases h1
    | some y =>
      obtain ⟨n, k⟩ := y
      rw [es] at h1
      simp only at h1
      by_cases c : (l.drop (i + 1)).length < n
      · rw [if_pos c] at h1
        cases h1
      · rw [if_neg c] at h1
        simp only [List.drop_drop] at h1
        cases er : PyFlat.rows k (l.drop (i + 1 + n)) with
        | none => rw [er] at h1; cases h1
        | some z =>
          obtain ⟨xs, t⟩ := z
          rw [er] at h1
          simp only at h1
          cases ec : PyFlat.calls PyVapatd.shape fuel t with
          | none => rw [ec] at h1; cases h1
          | some cs' =>
            rw [ec] at h1
            simp only [Option.some.injEq] at h1
            subst h1
            rw [List.all_cons, Bool.and_eq_true] at h2
            have ln : ((l.drop (i + 1)).take n).length = n := by
              rw [List.length_take]
              omega
            obtain ⟨k1, k2, k3, k4, cc, k5, k6⟩ := call_kind es ln (rows_len er) h2.1
            rw [List.length_drop] at c
            refine ⟨n, k, xs, t, cc, k1, k2, k3, k4, k6, by omega, er, fun e he => ⟨fuel, cs', by rw [← he]; exact ec, h2.2, ?_⟩⟩
            have st : VapatdNeutral.step s (PyVapatd.whole ((at0 l i :: (l.drop (i + 1)).take n) :: xs)) = Vapatd.step s cc := by
              unfold VapatdNeutral.step
              rw [k5]
            rw [h3, List.map_cons]
            simp only [PyFlat.played, PyFlat.told, List.flatMap_cons]
            rw [st]
            simp
theorem rest_len {l A F : List Int} {i : Nat} {s : HSt} (h : Rest l A i F s) : F.length ≤ A.length := by
  obtain ⟨_, _, _, _, h3⟩ := h
  rw [h3, List.length_append]
  omega
section
variable {P : Program} {w : World} {K : PySem.W.Frag} {mg : Str → Option Value} {base : Heap}
/-- the house stands when a list that is none of its own is written -/
theorem HouseIn.wrote {X : Txt K mg} {H H' : Hp} {a dx rr q : Addr} {vb : V} {s : HSt} {as : List Addr} {xs : List V} (h : HouseIn X H a s dx vb rr as) (z : Sep H a q) (eq : H q = some (.lst xs)) (o : Off q H H') : HouseIn X H' a s dx vb rr as := by
  obtain ⟨z1, z2⟩ := z _ _ _ _ _ h.ins h.rows
  have sq : Soft H q := .inl ⟨_, eq⟩
  refine ⟨o _ _ (ne_of h.ins eq (by intro z; cases z)) h.ins, o _ _ z1 h.rows, ?_, ?_⟩
  · have hb := h.base
    cases et : s.tree with
    | none =>
      rw [et] at hb
      exact hb
    | some t =>
      rw [et] at hb
      obtain ⟨b, rfl, dxt, d, kvs, h1, h2, h3⟩ := hb
      refine ⟨b, rfl, dxt, d, kvs, o _ _ (ne_of h1 eq (by intro z; cases z)) h1, o _ _ (ne_of h2 eq (by intro z; cases z)) h2, h3.perm, fun g c ec => ?_⟩
      obtain ⟨r, r1, r2⟩ := h3.val g c ec
      exact ⟨r, r1, sqT_off sq o r2⟩
  · have he := h.each
    generalize rowsV s = R at he
    clear h z
    induction he with
    | nil => exact .nil
    | cons hr _ ih => exact .cons (hr.off sq (z2 _ List.mem_cons_self) o) (ih fun b hb => z2 b (List.mem_cons_of_mem _ hb))
def spAns (K : PySem.W.Frag) : Sp := fun vs H Q _ => ∃ (b : Addr) (l : List Int), vs = [.ref b] ∧ SqL K H b (l.map V.int) ∧ l.length ≤ 6200 ∧ PyVapatd.answers_asked l = true ∧ ∀ (H' : Hp) (p : Addr), H' p = some (.lst ((PyVapatd.answers l).map V.int)) → Q (.ref p) H'
def sp_answers (_ : Txt K mg) : Sp := spAns K
theorem ok_answers (X : Txt K mg) : FnOk P w K mg base CX0 14 X.d_answers.f X.d_answers.fd ["calls"] (sp_answers X) := by
  refine X.d_answers.F.ok sc_answers (fun vs H Q E h => ?_) (fun cdv A outer s0 H vs Q E hr h => ?_)
  · obtain ⟨b, l, rfl, _⟩ := h
    rfl
  · obtain ⟨b, l, rfl, hC, hl, hask, k⟩ := h
    refine ⟨_, (pss_cons (ps_set (i := 1) sc_answers.nd rfl (.inl rfl) (pe_make0 X.mk_House (ok_House_init X) (hr.mono (by decide)) rfl X.g_House X.m_House_init.b .nil pass0))
        (pss_cons (ps_set (i := 2) sc_answers.nd rfl (.inl rfl) (pe_lst pa_nil))
        (pss_cons (ps_set (i := 3) sc_answers.nd rfl (.inl rfl) pe_int)
        (pss_cons (ps_while PassesOwn.never (pt_cmpR op_lt (pv 3) (pe_callB call_len_seq (by rfl) X.b_len (by decide +kernel) (pa_cons (pv 0) pa_nil)) (nomark _)) (pss_cons (ps_set (i := 4) sc_answers.nd rfl (.inl rfl) (pe_ix ix_list (pv 0) (pv 3) (fun _ _ => rfl)))
        (pss_cons (ps_set (i := 5) sc_answers.nd rfl (.inl rfl) (pe_op op_add (pe_op op_add (pv 3) pe_int) (pe_ix ix_tup (pe_glob (v := .ref X.c_NUMBERS.a) rfl X.c_NUMBERS.h rfl) (pv 4) (fun _ _ => rfl))))
        (pss_cons (ps_set (i := 6) sc_answers.nd rfl (.inl rfl) (pe_slice sl_list (pv 0) (po_some (pe_op op_add (pv 3) pe_int)) (po_some (pv 5))))
        (pss_cons (ps_set (i := 7) sc_answers.nd rfl (.inl rfl) (pe_lst pa_nil))
        (pss_cons (ps_for PassesOwn.never rfl (pi_range1 (by rfl) X.b_range (pa_cons (pe_ix ix_tup (pe_glob (v := .ref X.c_ROWS_merging.a) rfl X.c_ROWS_merging.h rfl) (pv 4) (fun _ _ => rfl)) pa_nil)) (pg_name (i := 8) sc_answers.nd rfl (.inl rfl)) (pss_cons (ps_expr (pe_bm PySem.F.plainAttrs_list PySem.F.slot_list_append PySem.F.type_list_append mt_append (pv 7) (pa_cons (pe_slice sl_list (pv 0) (po_some (pe_op op_add (pv 5) pe_int)) (po_some (pe_op op_add (pe_op op_add (pv 5) pe_int) (pe_ix ix_list (pv 0) (pv 5) (fun _ _ => rfl))))) pa_nil)))
        (pss_one (ps_set (i := 5) sc_answers.nd rfl (.inl rfl) (pe_op op_add (pe_op op_add (pv 5) pe_int) (pe_ix ix_list (pv 0) (pv 5) (fun _ _ => rfl)))))))
        (pss_cons (ps_set (i := 3) sc_answers.nd rfl (.inl rfl) (pv 5))
        (pss_cons (ps_if (pt_cmpR op_eq (pe_ix ix_tup (pe_glob (v := .ref X.c_NUMBERS.a) rfl X.c_NUMBERS.h rfl) (pv 4) (fun _ _ => rfl)) pe_int (nomark _)) (pss_one (ps_set (i := 9) sc_answers.nd rfl (.inl rfl) (pe_call (ok_told_of_two X) (hr.mono (by decide)) rfl X.d_told_of_two.g X.d_told_of_two.F.kp X.d_told_of_two.b .nil pass0 (pa_cons (pv 1) (pa_cons (pv 4) (pa_cons (pv 6) pa_nil)))))) (pss_one (ps_set (i := 9) sc_answers.nd rfl (.inl rfl) (pe_call (ok_told_of_row X) (hr.mono (by decide)) rfl X.d_told_of_row.g X.d_told_of_row.F.kp X.d_told_of_row.b .nil pass0 (pa_cons (pv 1) (pa_cons (pv 4) (pa_cons (pv 6) (pa_cons (pv 7) pa_nil))))))))
        (pss_cons (ps_expr (pe_bm PySem.F.plainAttrs_list PySem.F.slot_list_append PySem.F.type_list_append mt_append (pv 2) (pa_cons (pe_callB call_len_seq (by rfl) X.b_len (by decide +kernel) (pa_cons (pv 9) pa_nil)) pa_nil)))
        (pss_one (ps_expr (pe_bm PySem.F.plainAttrs_list PySem.F.slot_list_extend PySem.F.type_list_extend mt_extend (pv 2) (pa_cons (pv 9) pa_nil)))))))))))))
        (pss_one (ps_ret (pv 2))))))), ?_⟩
    have ln : (l.map V.int).length = l.length := List.length_map ..
    obtain ⟨r0, lA⟩ := rest_start hask
    generalize PyVapatd.answers l = A at k r0 lA
    intro x dx nx nd ne
    refine ⟨x, dx, rfl, upd_same, fun H1 off h0 => ⟨rfl, ?_⟩⟩
    have s1 : Same H H1 := Same.made' nx nd off
    refine ⟨Nat.zero_le _, fun q nq => ?_⟩
    have sep2 : Sep (upd H1 q (.lst [])) x q := by
      obtain ⟨dx0, vb0, rr0, as0, h0⟩ := h0
      have sq : Same H1 (upd H1 q (.lst [])) := same_upd nq
      refine sep_of (sq _ _ h0.ins) (sq _ _ h0.rows) ⟨ne_of_none h0.rows nq, fun b hb => ?_⟩
      obtain ⟨i, hi⟩ := List.mem_iff_getElem?.mp hb
      obtain ⟨row, _, as1, e1, _⟩ := h0.each.get hi
      exact ne_of_none e1 nq
    have h2 := h0.same (same_upd (o := .lst []) nq)
    have s2 : Same H (upd H1 q (.lst [])) := s1.trans (same_upd nq)
    have e2 : (upd H1 q (.lst [])) q = some (.lst []) := upd_same
    have nqH := s1.free nq
    clear h0 off
    generalize upd H1 q (.lst []) = H2 at sep2 h2 s2 e2
    refine ⟨fun m σ H' => ∃ (i : Nat) (F : List Int) (s : HSt) (v4 v5 v6 v7 v8 v9 : Option V), m = l.length - i ∧ σ = [some (.ref b), some (.ref x), some (.ref q), some (vN i), v4, v5, v6, v7, v8, v9] ∧ Same H H' ∧ HouseAt X H' x s ∧ Sep H' x q ∧ Good s ∧ H' q = some (.lst (F.map V.int)) ∧ Rest l A i F s,
      ⟨l.length, 0, [], Vapatd.start, none, none, none, none, none, none, rfl, rfl, s2, h2, sep2, good_start, e2, r0⟩, ?_⟩
    clear h2 s2 e2 sep2 r0
    rintro m σ H3 ⟨i, F, s, v4, v5, v6, v7, v8, v9, rfl, rfl, s3, hh, sep, g, eq, hR⟩
    refine ⟨_, rfl, _, rfl, _, _, rfl, .inl (s3.seq hC), _, _, rfl, rfl, _, rfl, ?_⟩
    rw [ln]
    by_cases hi : i < l.length
    · refine ifT (decide_eq_true (by omega)) ⟨fun σ' H' => ∃ m', m' < l.length - i ∧ (∃ (i : Nat) (F : List Int) (s : HSt) (v4 v5 v6 v7 v8 v9 : Option V), m' = l.length - i ∧ σ' = [some (.ref b), some (.ref x), some (.ref q), some (vN i), v4, v5, v6, v7, v8, v9] ∧ Same H H' ∧ HouseAt X H' x s ∧ Sep H' x q ∧ Good s ∧ H' q = some (.lst (F.map V.int)) ∧ Rest l A i F s), fun _ _ h => h, ?_⟩
      obtain ⟨n, kk, xs, t, c, a1, a2, a3, a4, a5, a6, a7, a8⟩ := rest_step hR hi
      refine ⟨_, rfl, _, rfl, _, _, _, _, rfl, rfl, s3.seq hC, at_i hi rfl, ?_⟩
      generalize at0 l i = p at a1 a2 a5
      refine ⟨_, rfl, _, _, rfl, rfl, _, rfl, _, _, _, _, rfl, rfl, X.c_NUMBERS.s _, a1, _, _, rfl, rfl, ?_⟩
      have en : (i : Int) + 1 + (n : Int) = ((i + 1 + n : Nat) : Int) := by omega
      refine ⟨_, rfl, _, rfl, _, _, rfl, rfl, _, rfl, _, rfl, _, rfl, _, _, rfl, s3.seq hC, fun p4 n4 => ?_⟩
      have ecut : cutV (l.map V.int) (some ((i : Int) + 1)) (some ((i : Int) + 1 + (n : Int))) = ((l.drop (i + 1)).take n).map V.int := by
        rw [en, show (i : Int) + 1 = ((i + 1 : Nat) : Int) by omega, cut_nat, List.map_take, List.map_drop]
        congr 1
        omega
      rw [ecut]
      refine alloc n4 fun H4 s4 e4 => ?_
      have s04 := s3.trans s4
      refine ⟨Nat.zero_le _, fun p5 n5 => ?_⟩
      have e5 : (upd H4 p5 (.lst [])) p5 = some (.lst []) := upd_same
      have s45 : Same H4 (upd H4 p5 (.lst [])) := same_upd n5
      generalize upd H4 p5 (.lst []) = H5 at e5 s45
      refine ⟨_, rfl, _, _, _, _, rfl, rfl, X.c_ROWS_merging.s _, a2, _, rfl, (by omega), (by omega), ?_⟩
      refine for_it walk_range (fun j σ' H' => ∃ (e : Nat) (done rest : List (List Int)) (bs : List Addr) (v8 v9 : Option V), σ' = [some (.ref b), some (.ref x), some (.ref q), some (vN i), some (.int p), some (vN e), some (.ref p4), some (.ref p5), v8, v9] ∧ Same H4 H' ∧ H' p5 = some (.lst (bs.map V.ref)) ∧ Two (fun b' x' => H' b' = some (.lst (x'.map V.int)) ∧ b' ≠ p5) bs done ∧ xs = done ++ rest ∧ PyFlat.rows (kk - j) (l.drop e) = some (rest, t) ∧ i + 1 ≤ e ∧ e ≤ l.length ∧ done.length ≤ j)
        ⟨i + 1 + n, [], xs, [], v8, v9, (by
          show [some (V.ref b), some (V.ref x), some (V.ref q), some (vN i), some (V.int p), some (V.int ((i : Int) + 1 + (n : Int))), some (V.ref p4), some (V.ref p5), v8, v9] = _
          rw [en]), s45, e5, .nil, rfl, a7, by omega, a6, Nat.le_refl _⟩ (fun _ _ _ _ _ => trivial) ?_ ?_
      · rintro j y σ' H6 H7 hj ⟨e, done, rest, bs, w8, w9, rfl, s6, e6, hbs, exs, erow, he1, he2, hd⟩ ⟨rfl, rfl⟩
        have ej : kk - j = (kk - (j + 1)) + 1 := by
          have : j < kk := by omega
          omega
        rw [ej] at erow
        obtain ⟨f1, f2, f3, ys, f4, f5⟩ := rows_turn erow
        have s06 := s04.trans s6
        have aat : atI (l.map V.int) (e : Int) = some (.int (at0 l e)) := at_i f1 rfl
        generalize at0 l e = z at f2 f3 f4 f5 aat
        have lbs : bs.length = done.length := hbs.len
        have ez : (e : Int) + 1 + z = ((e + 1 + z.toNat : Nat) : Int) := by omega
        have ecut : cutV (l.map V.int) (some ((e : Int) + 1)) (some ((e : Int) + 1 + z)) = ((l.drop (e + 1)).take z.toNat).map V.int := by
          rw [ez, show (e : Int) + 1 = ((e + 1 : Nat) : Int) by omega, cut_nat, List.map_take, List.map_drop]
          congr 1
          omega
        refine ⟨_, rfl, .inl ⟨rfl, _, SqL.of e6⟩, _, rfl, _, rfl, _, _, rfl, rfl, _, rfl, _, rfl, _, _, rfl, rfl, _, rfl, _, rfl, _, _, _, _, rfl, rfl, s06.seq hC, aat, _, _, rfl, rfl, _, rfl, _, _, rfl, s06.seq hC, fun p7 n7 => ?_⟩
        rw [ecut]
        refine alloc n7 fun H7 s7 e7 => ?_
        have e67 := s7 _ _ e6
        refine ⟨p5, _, _, rfl, rfl, e67, line_lt (by rw [List.length_map]; omega), ?_⟩
        have s47 : Same H4 (upd H7 p5 (.lst (bs.map V.ref ++ [.ref p7]))) := same_off (s6.trans s7) n5 Off.upd
        have e8 : (upd H7 p5 (.lst (bs.map V.ref ++ [.ref p7]))) p5 = some (.lst ((bs ++ [p7]).map V.ref)) := by rw [upd_same, List.map_append]; rfl
        have hp7 : p7 ≠ p5 := fun h => by
          rw [h, e6] at n7
          cases n7
        have hbs8 : Two (fun b' x' => (upd H7 p5 (.lst (bs.map V.ref ++ [.ref p7]))) b' = some (.lst (x'.map V.int)) ∧ b' ≠ p5) (bs ++ [p7]) (done ++ [(l.drop (e + 1)).take z.toNat]) :=
          (Two.imp hbs fun b' x' h => ⟨by rw [upd_ne h.2]; exact s7 _ _ h.1, h.2⟩).app (.one ⟨by rw [upd_ne hp7]; exact e7, hp7⟩)
        generalize upd H7 p5 (.lst (bs.map V.ref ++ [.ref p7])) = H8 at s47 e8 hbs8
        refine ⟨_, rfl, _, _, rfl, rfl, _, rfl, _, rfl, _, _, _, _, rfl, rfl, (s04.trans s47).seq hC, aat, _, _, rfl, rfl, ?_⟩
        refine ⟨e + 1 + z.toNat, done ++ [(l.drop (e + 1)).take z.toNat], ys, bs ++ [p7], some (V.int (0 + (j : Int))), w9, (by
          show [some (V.ref b), some (V.ref x), some (V.ref q), some (vN i), some (V.int p), some (V.int ((e : Int) + 1 + z)), some (V.ref p4), some (V.ref p5), some (V.int (0 + (j : Int))), w9] = _
          rw [ez]), s47, e8, hbs8, by rw [exs, f4]; simp, f5, by omega, f3, by rw [List.length_append, List.length_singleton]; omega⟩
      · rintro σ' H6 ⟨e, done, rest, bs, w8, w9, rfl, s6, e6, hbs, exs, erow, he1, he2, hd⟩
        have hz : kk - ((kk : Int)).toNat = 0 := by omega
        rw [hz] at erow
        simp only [PyFlat.rows, Option.some.injEq, Prod.mk.injEq] at erow
        obtain ⟨rfl, et⟩ := erow
        rw [List.append_nil] at exs
        subst exs
        have hR' := a8 e et.symm
        have s06 := s04.trans s6
        have s36 := s4.trans s6
        have hh6 := hh.same s36
        have sep6 := (hh.offS s36).2 q _ eq sep
        have eq6 := s36 _ _ eq
        have nx6 : H x = none := nx
        refine ⟨_, rfl, ?_⟩
        -- what comes behind the call
        have post : ∀ (H7 : Hp) (v : V), OffS x H6 H7 → HouseAt X H7 x (Vapatd.step s c).1 → LstN H6 ((Vapatd.step s c).2.map V.int) H7 v → ∃ D, v = .ref D ∧ H7 D = some (.lst ((Vapatd.step s c).2.map V.int)) ∧ H7 q = some (.lst (F.map V.int)) ∧ F.length + 1 + (Vapatd.step s c).2.length ≤ 10000000 ∧
            ∀ (v4 v5 v6 v7 v8 v9 : Option V) (H9 : Hp), Off q H7 H9 → H9 q = some (.lst ((F ++ (((Vapatd.step s c).2.length : Nat) : Int) :: (Vapatd.step s c).2).map V.int)) →
              ∃ m', m' < l.length - i ∧ (∃ (i : Nat) (F : List Int) (s : HSt) (w4 w5 w6 w7 w8 w9 : Option V), m' = l.length - i ∧ [some (.ref b), some (.ref x), some (.ref q), some (vN e), v4, v5, v6, v7, v8, v9] = [some (.ref b), some (.ref x), some (.ref q), some (vN i), w4, w5, w6, w7, w8, w9] ∧ Same H H9 ∧ HouseAt X H9 x s ∧ Sep H9 x q ∧ Good s ∧ H9 q = some (.lst (F.map V.int)) ∧ Rest l A i F s) := by
          intro H7 v o7 h7 r7
          obtain ⟨D, rfl, eD, nD⟩ := r7
          have qx : q ≠ x := by
            obtain ⟨_, _, _, _, h⟩ := hh6
            exact ne_of eq6 h.ins (by intro z; cases z)
          have eq7 := o7.1 _ _ qx eq6
          have hlen := rest_len hR'
          rw [List.length_append, List.length_cons] at hlen
          refine ⟨D, rfl, eD, eq7, by omega, fun u4 u5 u6 u7 u8 u9 H9 o9 e9 => ⟨_, ?_, e, _, (Vapatd.step s c).1, u4, u5, u6, u7, u8, u9, rfl, rfl, ?_, ?_, ?_, good_step g c, e9, hR'⟩⟩
          · omega
          · exact same_off (same_off s06 nx6 o7.1) nqH o9
          · obtain ⟨_, _, _, _, h7⟩ := h7
            exact ⟨_, _, _, _, h7.wrote (o7.2 q _ eq6 sep6) eq7 o9⟩
          · have sep7 := o7.2 q _ eq6 sep6
            obtain ⟨_, _, _, _, h7⟩ := h7
            have h9 := h7.wrote sep7 eq7 o9
            exact sep_of h9.ins h9.rows (sep7 _ _ _ _ _ h7.ins h7.rows)
        -- the answer put behind the others
        have lz : (10000000 : Nat) < sizeLine := by rw [sizeLine_eq]; decide
        refine ⟨_, rfl, _, _, _, _, rfl, rfl, X.c_NUMBERS.s _, a1, rfl, _, rfl, ?_⟩
        rw [dec_i]
        rcases a5 with ⟨hn, hc⟩ | ⟨hn, hc⟩
        · refine ifF (decide_eq_false (by omega)) ?_
          refine ⟨_, rfl, _, rfl, _, rfl, _, rfl, x, p4, p5, p, s, _, xs, bs, c, rfl, hh6, g, s6 _ _ e4, e6, Two.imp hbs fun _ _ h => h.1, a4, hc, fun H7 v o7 h7 r7 => ?_⟩
          obtain ⟨D, rfl, eD, eq7, hlen, fin⟩ := post H7 v o7 h7 r7
          refine ⟨_, rfl, .inl ⟨rfl, _, SqL.of eq7⟩, _, rfl, _, _, rfl, .inl (SqL.of eD), q, _, _, rfl, rfl, eq7, Nat.lt_of_le_of_lt (by rw [List.length_map]; omega) lz, ?_⟩
          have nDq : D ≠ q := fun h => by
            obtain ⟨D', e', _, nD⟩ := r7
            cases e'
            rw [h, eq6] at nD
            cases nD
          have e8 : (upd H7 q (.lst (F.map V.int ++ [.int ((((Vapatd.step s c).2.map V.int).length : Nat) : Int)]))) q = some (.lst (F.map V.int ++ [.int ((((Vapatd.step s c).2.map V.int).length : Nat) : Int)])) := upd_same
          have o8 : Off q H7 (upd H7 q (.lst (F.map V.int ++ [.int ((((Vapatd.step s c).2.map V.int).length : Nat) : Int)]))) := Off.upd
          have eD8 := o8 _ _ nDq eD
          generalize upd H7 q (.lst (F.map V.int ++ [.int ((((Vapatd.step s c).2.map V.int).length : Nat) : Int)])) = H8 at e8 o8 eD8
          refine ⟨_, rfl, .inl ⟨rfl, _, SqL.of e8⟩, _, rfl, q, D, _, _, rfl, rfl, e8, eD8, Nat.le_of_lt (Nat.lt_of_le_of_lt (by simp only [List.length_append, List.length_map, List.length_cons, List.length_nil]; omega) lz), ?_⟩
          refine fin _ _ _ _ _ _ _ (o8.trans Off.upd) ?_
          rw [upd_same]
          simp
        · refine ifT (decide_eq_true (by omega)) ?_
          refine ⟨_, rfl, _, rfl, _, rfl, x, p4, p, s, _, c, rfl, hh6, g, s6 _ _ e4, hc, fun H7 v o7 h7 r7 => ?_⟩
          obtain ⟨D, rfl, eD, eq7, hlen, fin⟩ := post H7 v o7 h7 r7
          refine ⟨_, rfl, .inl ⟨rfl, _, SqL.of eq7⟩, _, rfl, _, _, rfl, .inl (SqL.of eD), q, _, _, rfl, rfl, eq7, Nat.lt_of_le_of_lt (by rw [List.length_map]; omega) lz, ?_⟩
          have nDq : D ≠ q := fun h => by
            obtain ⟨D', e', _, nD⟩ := r7
            cases e'
            rw [h, eq6] at nD
            cases nD
          have e8 : (upd H7 q (.lst (F.map V.int ++ [.int ((((Vapatd.step s c).2.map V.int).length : Nat) : Int)]))) q = some (.lst (F.map V.int ++ [.int ((((Vapatd.step s c).2.map V.int).length : Nat) : Int)])) := upd_same
          have o8 : Off q H7 (upd H7 q (.lst (F.map V.int ++ [.int ((((Vapatd.step s c).2.map V.int).length : Nat) : Int)]))) := Off.upd
          have eD8 := o8 _ _ nDq eD
          generalize upd H7 q (.lst (F.map V.int ++ [.int ((((Vapatd.step s c).2.map V.int).length : Nat) : Int)])) = H8 at e8 o8 eD8
          refine ⟨_, rfl, .inl ⟨rfl, _, SqL.of e8⟩, _, rfl, q, D, _, _, rfl, rfl, e8, eD8, Nat.le_of_lt (Nat.lt_of_le_of_lt (by simp only [List.length_append, List.length_map, List.length_cons, List.length_nil]; omega) lz), ?_⟩
          refine fin _ _ _ _ _ _ _ (o8.trans Off.upd) ?_
          rw [upd_same]
          simp
    · refine ifF (decide_eq_false (by omega)) ?_
      have := rest_end hR (by omega)
      subst this
      exact ⟨_, rfl, k H3 q eq⟩
end
end Rw

/-! part RwTxt -/
set_option Elab.async false
set_option linter.all false
set_option maxRecDepth 100000
set_option maxHeartbeats 8000000
namespace Rw
open PySem PySem.Spec PyProof.Rows L2
/-- the numbers of a tuple that the top has made -/
def valsI : List Value → Option (List Int)
  | [] => some []
  | .int k _ :: r => (valsI r).map (k :: ·)
  | _ => none
theorem valsI_is : ∀ {us : List Value} {ns : List Int}, valsI us = some ns → Vals (ns.map V.int) us
  | [], ns, h => by
    cases h
    exact .nil
  | .int k t :: r, ns, h => by
    simp only [valsI] at h
    cases e : valsI r with
    | none => rw [e] at h; cases h
    | some m =>
      rw [e] at h
      cases h
      exact .cons ⟨t, rfl⟩ (valsI_is e)
theorem valsI_sz {i : Array Value} {ns : List Int} (h : valsI i.toList = some ns) (l : ns.length ≤ 1000) : i.size ≤ sizeLine := by
  have e : ns.length = i.size := by
    rw [← Array.length_toList, ← Vals.length (valsI_is h), List.length_map]
  rw [← e]
  exact line_le (Nat.le_trans l (by decide))

theorem txt_mk {K : PySem.W.Frag} {h : Heap} {mg : Str → Option Value} (IK : K.In h) (G : h.Ns mainGlobals mg) {C_Step C_Tree C_Block C_House f0 f1 f2 f3 f4 f5 f6 f7 f8 f9 f10 f11 f12 f13 f14 f15 f16 f17 f18 f19 f20 f21 f22 f23 f24 f25 f26 f27 f28 f29 f30 f31 f32 f33 f34 f35 f36 f37 f38 f39 f40 f41 f42 f43 f44 f45 f46 f47 f48 f49 f50 f51 f52 f53 f54 f55 f56 f57 f58 f59 f60 f61 f62 f63 f64 f65 f66 f67 T_NUMBERS T_ROWS_merging : Addr}
    {od0 an0 od1 an1 od2 an2 od3 an3 od4 an4 od5 an5 od6 an6 od7 an7 od8 an8 od9 an9 od10 an10 od11 an11 od12 an12 od13 an13 od14 an14 od15 an15 od16 an16 od17 an17 od18 an18 od19 an19 od20 an20 od21 an21 od22 an22 od23 an23 od24 an24 od25 an25 od26 an26 od27 an27 od28 an28 od29 an29 od30 an30 od31 an31 od32 an32 od33 an33 od34 an34 od35 an35 od36 an36 od37 an37 od38 an38 od39 an39 od40 an40 od41 an41 od42 an42 od43 an43 od44 an44 od45 an45 od46 an46 od47 an47 od48 an48 od49 an49 od50 an50 od51 an51 od52 an52 od53 an53 od54 an54 od55 an55 od56 an56 od57 an57 od58 an58 od59 an59 od60 an60 od61 an61 od62 an62 od63 an63 od64 an64 od65 an65 od66 an66 od67 an67 : Option Addr} {sl0 sl1 sl2 sl3 sl4 sl5 sl6 sl7 sl8 sl9 sl10 sl11 sl12 sl13 sl14 sl15 sl16 sl17 sl18 sl19 sl20 sl21 sl22 sl23 sl24 sl25 sl26 sl27 sl28 sl29 sl30 sl31 sl32 sl33 sl34 sl35 sl36 sl37 sl38 sl39 sl40 sl41 sl42 sl43 sl44 sl45 sl46 sl47 sl48 sl49 sl50 sl51 sl52 sl53 sl54 sl55 sl56 sl57 sl58 sl59 sl60 sl61 sl62 sl63 sl64 sl65 sl66 sl67 : Array (Option Value)} {oc0 kV0 dc0 pm0 cd0 ct0 oc1 kV1 dc1 pm1 cd1 ct1 oc2 kV2 dc2 pm2 cd2 ct2 oc3 kV3 dc3 pm3 cd3 ct3 oc4 kV4 dc4 pm4 cd4 ct4 oc5 kV5 dc5 pm5 cd5 ct5 oc6 kV6 dc6 pm6 cd6 ct6 oc7 kV7 dc7 pm7 cd7 ct7 oc8 kV8 dc8 pm8 cd8 ct8 oc9 kV9 dc9 pm9 cd9 ct9 oc10 kV10 dc10 pm10 cd10 ct10 oc11 kV11 dc11 pm11 cd11 ct11 oc12 kV12 dc12 pm12 cd12 ct12 oc13 kV13 dc13 pm13 cd13 ct13 oc14 kV14 dc14 pm14 cd14 ct14 oc15 kV15 dc15 pm15 cd15 ct15 oc16 kV16 dc16 pm16 cd16 ct16 oc17 kV17 dc17 pm17 cd17 ct17 oc18 kV18 dc18 pm18 cd18 ct18 oc19 kV19 dc19 pm19 cd19 ct19 oc20 kV20 dc20 pm20 cd20 ct20 oc21 kV21 dc21 pm21 cd21 ct21 oc22 kV22 dc22 pm22 cd22 ct22 oc23 kV23 dc23 pm23 cd23 ct23 oc24 kV24 dc24 pm24 cd24 ct24 oc25 kV25 dc25 pm25 cd25 ct25 oc26 kV26 dc26 pm26 cd26 ct26 oc27 kV27 dc27 pm27 cd27 ct27 oc28 kV28 dc28 pm28 cd28 ct28 oc29 kV29 dc29 pm29 cd29 ct29 oc30 kV30 dc30 pm30 cd30 ct30 oc31 kV31 dc31 pm31 cd31 ct31 oc32 kV32 dc32 pm32 cd32 ct32 oc33 kV33 dc33 pm33 cd33 ct33 oc34 kV34 dc34 pm34 cd34 ct34 oc35 kV35 dc35 pm35 cd35 ct35 oc36 kV36 dc36 pm36 cd36 ct36 oc37 kV37 dc37 pm37 cd37 ct37 oc38 kV38 dc38 pm38 cd38 ct38 oc39 kV39 dc39 pm39 cd39 ct39 oc40 kV40 dc40 pm40 cd40 ct40 oc41 kV41 dc41 pm41 cd41 ct41 oc42 kV42 dc42 pm42 cd42 ct42 oc43 kV43 dc43 pm43 cd43 ct43 oc44 kV44 dc44 pm44 cd44 ct44 oc45 kV45 dc45 pm45 cd45 ct45 oc46 kV46 dc46 pm46 cd46 ct46 oc47 kV47 dc47 pm47 cd47 ct47 oc48 kV48 dc48 pm48 cd48 ct48 oc49 kV49 dc49 pm49 cd49 ct49 oc50 kV50 dc50 pm50 cd50 ct50 oc51 kV51 dc51 pm51 cd51 ct51 oc52 kV52 dc52 pm52 cd52 ct52 oc53 kV53 dc53 pm53 cd53 ct53 oc54 kV54 dc54 pm54 cd54 ct54 oc55 kV55 dc55 pm55 cd55 ct55 oc56 kV56 dc56 pm56 cd56 ct56 oc57 kV57 dc57 pm57 cd57 ct57 oc58 kV58 dc58 pm58 cd58 ct58 oc59 kV59 dc59 pm59 cd59 ct59 oc60 kV60 dc60 pm60 cd60 ct60 oc61 kV61 dc61 pm61 cd61 ct61 oc62 kV62 dc62 pm62 cd62 ct62 oc63 kV63 dc63 pm63 cd63 ct63 oc64 kV64 dc64 pm64 cd64 ct64 oc65 kV65 dc65 pm65 cd65 ct65 oc66 kV66 dc66 pm66 cd66 ct66 oc67 kV67 dc67 pm67 cd67 ct67 : Value} {t_HUNK t_SWAP t_ADDED t_REMOVED t_MOVED t_MOST_NAME t_MOST_TOKEN t_MOST_PLACE t_MOST_TOKENS t_MOST_FILES t_MOST_IN_FILE t_NO_FORM t_NO_ROW t_SAME_ROW t_DOESNT_FIT t_TOO_MANY t_CANT_BE t_NO_TREE t_ROWS_house t_MOST_STEPS t_MOST_PULLED : Tok} {i_NUMBERS i_ROWS_merging : Array Value} {n_NUMBERS n_ROWS_merging : Nat} {z_NUMBERS z_ROWS_merging : Array (Option Value)}
    (g_Step : PySem.W.nsIn K mainGlobals "Step" = some (some (.ref C_Step)))
    (g_Tree : PySem.W.nsIn K mainGlobals "Tree" = some (some (.ref C_Tree)))
    (g_Block : PySem.W.nsIn K mainGlobals "Block" = some (some (.ref C_Block)))
    (g_House : PySem.W.nsIn K mainGlobals "House" = some (some (.ref C_House)))
    (m0 : PySem.W.findIn K (.ref C_Step) "__init__" = some (some (.ref f0)))
    (i0 : PySem.W.isFn K (.ref f0) = true)
    (l0 : K.lookup f0 = some ⟨oc0, od0, .func (PySem.W.fnOf "__init__" "Step.__init__" (defArgs s_Step_init) (defBody s_Step_init) (defScope s_Step_init) .none kV0 dc0 pm0 an0 cd0 ct0), sl0⟩)
    (c0 : PySem.W.codeIn K cd0 "Step.__init__" = true)
    (k0 : PySem.W.keepIn K (.ref f0) = true)
    (m1 : PySem.W.findIn K (.ref C_Step) "names" = some (some (.ref f1)))
    (i1 : PySem.W.isFn K (.ref f1) = true)
    (l1 : K.lookup f1 = some ⟨oc1, od1, .func (PySem.W.fnOf "names" "Step.names" (defArgs s_Step_names) (defBody s_Step_names) (defScope s_Step_names) .none kV1 dc1 pm1 an1 cd1 ct1), sl1⟩)
    (c1 : PySem.W.codeIn K cd1 "Step.names" = true)
    (k1 : PySem.W.keepIn K (.ref f1) = true)
    (m2 : PySem.W.findIn K (.ref C_Step) "is_inside" = some (some (.ref f2)))
    (i2 : PySem.W.isFn K (.ref f2) = true)
    (l2 : K.lookup f2 = some ⟨oc2, od2, .func (PySem.W.fnOf "is_inside" "Step.is_inside" (defArgs s_Step_is_inside) (defBody s_Step_is_inside) (defScope s_Step_is_inside) .none kV2 dc2 pm2 an2 cd2 ct2), sl2⟩)
    (c2 : PySem.W.codeIn K cd2 "Step.is_inside" = true)
    (k2 : PySem.W.keepIn K (.ref f2) = true)
    (m3 : PySem.W.findIn K (.ref C_Step) "at_place" = some (some (.ref f3)))
    (i3 : PySem.W.isFn K (.ref f3) = true)
    (l3 : K.lookup f3 = some ⟨oc3, od3, .func (PySem.W.fnOf "at_place" "Step.at_place" (defArgs s_Step_at_place) (defBody s_Step_at_place) (defScope s_Step_at_place) .none kV3 dc3 pm3 an3 cd3 ct3), sl3⟩)
    (c3 : PySem.W.codeIn K cd3 "Step.at_place" = true)
    (k3 : PySem.W.keepIn K (.ref f3) = true)
    (m4 : PySem.W.findIn K (.ref C_Step) "in_file" = some (some (.ref f4)))
    (i4 : PySem.W.isFn K (.ref f4) = true)
    (l4 : K.lookup f4 = some ⟨oc4, od4, .func (PySem.W.fnOf "in_file" "Step.in_file" (defArgs s_Step_in_file) (defBody s_Step_in_file) (defScope s_Step_in_file) .none kV4 dc4 pm4 an4 cd4 ct4), sl4⟩)
    (c4 : PySem.W.codeIn K cd4 "Step.in_file" = true)
    (k4 : PySem.W.keepIn K (.ref f4) = true)
    (m5 : PySem.W.findIn K (.ref C_Step) "with_tokens" = some (some (.ref f5)))
    (i5 : PySem.W.isFn K (.ref f5) = true)
    (l5 : K.lookup f5 = some ⟨oc5, od5, .func (PySem.W.fnOf "with_tokens" "Step.with_tokens" (defArgs s_Step_with_tokens) (defBody s_Step_with_tokens) (defScope s_Step_with_tokens) .none kV5 dc5 pm5 an5 cd5 ct5), sl5⟩)
    (c5 : PySem.W.codeIn K cd5 "Step.with_tokens" = true)
    (k5 : PySem.W.keepIn K (.ref f5) = true)
    (m6 : PySem.W.findIn K (.ref C_Step) "turned" = some (some (.ref f6)))
    (i6 : PySem.W.isFn K (.ref f6) = true)
    (l6 : K.lookup f6 = some ⟨oc6, od6, .func (PySem.W.fnOf "turned" "Step.turned" (defArgs s_Step_turned) (defBody s_Step_turned) (defScope s_Step_turned) .none kV6 dc6 pm6 an6 cd6 ct6), sl6⟩)
    (c6 : PySem.W.codeIn K cd6 "Step.turned" = true)
    (k6 : PySem.W.keepIn K (.ref f6) = true)
    (m7 : PySem.W.findIn K (.ref C_Step) "numbers" = some (some (.ref f7)))
    (i7 : PySem.W.isFn K (.ref f7) = true)
    (l7 : K.lookup f7 = some ⟨oc7, od7, .func (PySem.W.fnOf "numbers" "Step.numbers" (defArgs s_Step_numbers) (defBody s_Step_numbers) (defScope s_Step_numbers) .none kV7 dc7 pm7 an7 cd7 ct7), sl7⟩)
    (c7 : PySem.W.codeIn K cd7 "Step.numbers" = true)
    (k7 : PySem.W.keepIn K (.ref f7) = true)
    (g8 : PySem.W.nsIn K mainGlobals "turned_row" = some (some (.ref f8)))
    (l8 : K.lookup f8 = some ⟨oc8, od8, .func (PySem.W.fnOf "turned_row" "turned_row" (defArgs s_turned_row) (defBody s_turned_row) (defScope s_turned_row) .none kV8 dc8 pm8 an8 cd8 ct8), sl8⟩)
    (c8 : PySem.W.codeIn K cd8 "turned_row" = true)
    (k8 : PySem.W.keepIn K (.ref f8) = true)
    (g9 : PySem.W.nsIn K mainGlobals "row_numbers" = some (some (.ref f9)))
    (l9 : K.lookup f9 = some ⟨oc9, od9, .func (PySem.W.fnOf "row_numbers" "row_numbers" (defArgs s_row_numbers) (defBody s_row_numbers) (defScope s_row_numbers) .none kV9 dc9 pm9 an9 cd9 ct9), sl9⟩)
    (c9 : PySem.W.codeIn K cd9 "row_numbers" = true)
    (k9 : PySem.W.keepIn K (.ref f9) = true)
    (g10 : PySem.W.nsIn K mainGlobals "is_name" = some (some (.ref f10)))
    (l10 : K.lookup f10 = some ⟨oc10, od10, .func (PySem.W.fnOf "is_name" "is_name" (defArgs s_is_name) (defBody s_is_name) (defScope s_is_name) .none kV10 dc10 pm10 an10 cd10 ct10), sl10⟩)
    (c10 : PySem.W.codeIn K cd10 "is_name" = true)
    (k10 : PySem.W.keepIn K (.ref f10) = true)
    (g11 : PySem.W.nsIn K mainGlobals "is_token" = some (some (.ref f11)))
    (l11 : K.lookup f11 = some ⟨oc11, od11, .func (PySem.W.fnOf "is_token" "is_token" (defArgs s_is_token) (defBody s_is_token) (defScope s_is_token) .none kV11 dc11 pm11 an11 cd11 ct11), sl11⟩)
    (c11 : PySem.W.codeIn K cd11 "is_token" = true)
    (k11 : PySem.W.keepIn K (.ref f11) = true)
    (g12 : PySem.W.nsIn K mainGlobals "are_tokens" = some (some (.ref f12)))
    (l12 : K.lookup f12 = some ⟨oc12, od12, .func (PySem.W.fnOf "are_tokens" "are_tokens" (defArgs s_are_tokens) (defBody s_are_tokens) (defScope s_are_tokens) .none kV12 dc12 pm12 an12 cd12 ct12), sl12⟩)
    (c12 : PySem.W.codeIn K cd12 "are_tokens" = true)
    (k12 : PySem.W.keepIn K (.ref f12) = true)
    (g13 : PySem.W.nsIn K mainGlobals "counted_row" = some (some (.ref f13)))
    (l13 : K.lookup f13 = some ⟨oc13, od13, .func (PySem.W.fnOf "counted_row" "counted_row" (defArgs s_counted_row) (defBody s_counted_row) (defScope s_counted_row) .none kV13 dc13 pm13 an13 cd13 ct13), sl13⟩)
    (c13 : PySem.W.codeIn K cd13 "counted_row" = true)
    (k13 : PySem.W.keepIn K (.ref f13) = true)
    (g14 : PySem.W.nsIn K mainGlobals "read_hunk" = some (some (.ref f14)))
    (l14 : K.lookup f14 = some ⟨oc14, od14, .func (PySem.W.fnOf "read_hunk" "read_hunk" (defArgs s_read_hunk) (defBody s_read_hunk) (defScope s_read_hunk) .none kV14 dc14 pm14 an14 cd14 ct14), sl14⟩)
    (c14 : PySem.W.codeIn K cd14 "read_hunk" = true)
    (k14 : PySem.W.keepIn K (.ref f14) = true)
    (g15 : PySem.W.nsIn K mainGlobals "read_swap" = some (some (.ref f15)))
    (l15 : K.lookup f15 = some ⟨oc15, od15, .func (PySem.W.fnOf "read_swap" "read_swap" (defArgs s_read_swap) (defBody s_read_swap) (defScope s_read_swap) .none kV15 dc15 pm15 an15 cd15 ct15), sl15⟩)
    (c15 : PySem.W.codeIn K cd15 "read_swap" = true)
    (k15 : PySem.W.keepIn K (.ref f15) = true)
    (g16 : PySem.W.nsIn K mainGlobals "read_moved" = some (some (.ref f16)))
    (l16 : K.lookup f16 = some ⟨oc16, od16, .func (PySem.W.fnOf "read_moved" "read_moved" (defArgs s_read_moved) (defBody s_read_moved) (defScope s_read_moved) .none kV16 dc16 pm16 an16 cd16 ct16), sl16⟩)
    (c16 : PySem.W.codeIn K cd16 "read_moved" = true)
    (k16 : PySem.W.keepIn K (.ref f16) = true)
    (g17 : PySem.W.nsIn K mainGlobals "read_step" = some (some (.ref f17)))
    (l17 : K.lookup f17 = some ⟨oc17, od17, .func (PySem.W.fnOf "read_step" "read_step" (defArgs s_read_step) (defBody s_read_step) (defScope s_read_step) .none kV17 dc17 pm17 an17 cd17 ct17), sl17⟩)
    (c17 : PySem.W.codeIn K cd17 "read_step" = true)
    (k17 : PySem.W.keepIn K (.ref f17) = true)
    (g18 : PySem.W.nsIn K mainGlobals "swapped" = some (some (.ref f18)))
    (l18 : K.lookup f18 = some ⟨oc18, od18, .func (PySem.W.fnOf "swapped" "swapped" (defArgs s_swapped) (defBody s_swapped) (defScope s_swapped) .none kV18 dc18 pm18 an18 cd18 ct18), sl18⟩)
    (c18 : PySem.W.codeIn K cd18 "swapped" = true)
    (k18 : PySem.W.keepIn K (.ref f18) = true)
    (m19 : PySem.W.findIn K (.ref C_Tree) "__init__" = some (some (.ref f19)))
    (i19 : PySem.W.isFn K (.ref f19) = true)
    (l19 : K.lookup f19 = some ⟨oc19, od19, .func (PySem.W.fnOf "__init__" "Tree.__init__" (defArgs s_Tree_init) (defBody s_Tree_init) (defScope s_Tree_init) .none kV19 dc19 pm19 an19 cd19 ct19), sl19⟩)
    (c19 : PySem.W.codeIn K cd19 "Tree.__init__" = true)
    (k19 : PySem.W.keepIn K (.ref f19) = true)
    (m20 : PySem.W.findIn K (.ref C_Tree) "has" = some (some (.ref f20)))
    (i20 : PySem.W.isFn K (.ref f20) = true)
    (l20 : K.lookup f20 = some ⟨oc20, od20, .func (PySem.W.fnOf "has" "Tree.has" (defArgs s_Tree_has) (defBody s_Tree_has) (defScope s_Tree_has) .none kV20 dc20 pm20 an20 cd20 ct20), sl20⟩)
    (c20 : PySem.W.codeIn K cd20 "Tree.has" = true)
    (k20 : PySem.W.keepIn K (.ref f20) = true)
    (m21 : PySem.W.findIn K (.ref C_Tree) "tokens" = some (some (.ref f21)))
    (i21 : PySem.W.isFn K (.ref f21) = true)
    (l21 : K.lookup f21 = some ⟨oc21, od21, .func (PySem.W.fnOf "tokens" "Tree.tokens" (defArgs s_Tree_tokens) (defBody s_Tree_tokens) (defScope s_Tree_tokens) .none kV21 dc21 pm21 an21 cd21 ct21), sl21⟩)
    (c21 : PySem.W.codeIn K cd21 "Tree.tokens" = true)
    (k21 : PySem.W.keepIn K (.ref f21) = true)
    (m22 : PySem.W.findIn K (.ref C_Tree) "fits_hunk" = some (some (.ref f22)))
    (i22 : PySem.W.isFn K (.ref f22) = true)
    (l22 : K.lookup f22 = some ⟨oc22, od22, .func (PySem.W.fnOf "fits_hunk" "Tree.fits_hunk" (defArgs s_Tree_fits_hunk) (defBody s_Tree_fits_hunk) (defScope s_Tree_fits_hunk) .none kV22 dc22 pm22 an22 cd22 ct22), sl22⟩)
    (c22 : PySem.W.codeIn K cd22 "Tree.fits_hunk" = true)
    (k22 : PySem.W.keepIn K (.ref f22) = true)
    (m23 : PySem.W.findIn K (.ref C_Tree) "fits" = some (some (.ref f23)))
    (i23 : PySem.W.isFn K (.ref f23) = true)
    (l23 : K.lookup f23 = some ⟨oc23, od23, .func (PySem.W.fnOf "fits" "Tree.fits" (defArgs s_Tree_fits) (defBody s_Tree_fits) (defScope s_Tree_fits) .none kV23 dc23 pm23 an23 cd23 ct23), sl23⟩)
    (c23 : PySem.W.codeIn K cd23 "Tree.fits" = true)
    (k23 : PySem.W.keepIn K (.ref f23) = true)
    (m24 : PySem.W.findIn K (.ref C_Tree) "with_file" = some (some (.ref f24)))
    (i24 : PySem.W.isFn K (.ref f24) = true)
    (l24 : K.lookup f24 = some ⟨oc24, od24, .func (PySem.W.fnOf "with_file" "Tree.with_file" (defArgs s_Tree_with_file) (defBody s_Tree_with_file) (defScope s_Tree_with_file) .none kV24 dc24 pm24 an24 cd24 ct24), sl24⟩)
    (c24 : PySem.W.codeIn K cd24 "Tree.with_file" = true)
    (k24 : PySem.W.keepIn K (.ref f24) = true)
    (m25 : PySem.W.findIn K (.ref C_Tree) "without" = some (some (.ref f25)))
    (i25 : PySem.W.isFn K (.ref f25) = true)
    (l25 : K.lookup f25 = some ⟨oc25, od25, .func (PySem.W.fnOf "without" "Tree.without" (defArgs s_Tree_without) (defBody s_Tree_without) (defScope s_Tree_without) .none kV25 dc25 pm25 an25 cd25 ct25), sl25⟩)
    (c25 : PySem.W.codeIn K cd25 "Tree.without" = true)
    (k25 : PySem.W.keepIn K (.ref f25) = true)
    (m26 : PySem.W.findIn K (.ref C_Tree) "applied" = some (some (.ref f26)))
    (i26 : PySem.W.isFn K (.ref f26) = true)
    (l26 : K.lookup f26 = some ⟨oc26, od26, .func (PySem.W.fnOf "applied" "Tree.applied" (defArgs s_Tree_applied) (defBody s_Tree_applied) (defScope s_Tree_applied) .none kV26 dc26 pm26 an26 cd26 ct26), sl26⟩)
    (c26 : PySem.W.codeIn K cd26 "Tree.applied" = true)
    (k26 : PySem.W.keepIn K (.ref f26) = true)
    (m27 : PySem.W.findIn K (.ref C_Tree) "behind" = some (some (.ref f27)))
    (i27 : PySem.W.isFn K (.ref f27) = true)
    (l27 : K.lookup f27 = some ⟨oc27, od27, .func (PySem.W.fnOf "behind" "Tree.behind" (defArgs s_Tree_behind) (defBody s_Tree_behind) (defScope s_Tree_behind) .none kV27 dc27 pm27 an27 cd27 ct27), sl27⟩)
    (c27 : PySem.W.codeIn K cd27 "Tree.behind" = true)
    (k27 : PySem.W.keepIn K (.ref f27) = true)
    (m28 : PySem.W.findIn K (.ref C_Tree) "numbers" = some (some (.ref f28)))
    (i28 : PySem.W.isFn K (.ref f28) = true)
    (l28 : K.lookup f28 = some ⟨oc28, od28, .func (PySem.W.fnOf "numbers" "Tree.numbers" (defArgs s_Tree_numbers) (defBody s_Tree_numbers) (defScope s_Tree_numbers) .none kV28 dc28 pm28 an28 cd28 ct28), sl28⟩)
    (c28 : PySem.W.codeIn K cd28 "Tree.numbers" = true)
    (k28 : PySem.W.keepIn K (.ref f28) = true)
    (g29 : PySem.W.nsIn K mainGlobals "read_tree" = some (some (.ref f29)))
    (l29 : K.lookup f29 = some ⟨oc29, od29, .func (PySem.W.fnOf "read_tree" "read_tree" (defArgs s_read_tree) (defBody s_read_tree) (defScope s_read_tree) .none kV29 dc29 pm29 an29 cd29 ct29), sl29⟩)
    (c29 : PySem.W.codeIn K cd29 "read_tree" = true)
    (k29 : PySem.W.keepIn K (.ref f29) = true)
    (g30 : PySem.W.nsIn K mainGlobals "have_name_in_common" = some (some (.ref f30)))
    (l30 : K.lookup f30 = some ⟨oc30, od30, .func (PySem.W.fnOf "have_name_in_common" "have_name_in_common" (defArgs s_have_name_in_common) (defBody s_have_name_in_common) (defScope s_have_name_in_common) .none kV30 dc30 pm30 an30 cd30 ct30), sl30⟩)
    (c30 : PySem.W.codeIn K cd30 "have_name_in_common" = true)
    (k30 : PySem.W.keepIn K (.ref f30) = true)
    (g31 : PySem.W.nsIn K mainGlobals "hunks_commuted" = some (some (.ref f31)))
    (l31 : K.lookup f31 = some ⟨oc31, od31, .func (PySem.W.fnOf "hunks_commuted" "hunks_commuted" (defArgs s_hunks_commuted) (defBody s_hunks_commuted) (defScope s_hunks_commuted) .none kV31 dc31 pm31 an31 cd31 ct31), sl31⟩)
    (c31 : PySem.W.codeIn K cd31 "hunks_commuted" = true)
    (k31 : PySem.W.keepIn K (.ref f31) = true)
    (g32 : PySem.W.nsIn K mainGlobals "with_swapped" = some (some (.ref f32)))
    (l32 : K.lookup f32 = some ⟨oc32, od32, .func (PySem.W.fnOf "with_swapped" "with_swapped" (defArgs s_with_swapped) (defBody s_with_swapped) (defScope s_with_swapped) .none kV32 dc32 pm32 an32 cd32 ct32), sl32⟩)
    (c32 : PySem.W.codeIn K cd32 "with_swapped" = true)
    (k32 : PySem.W.keepIn K (.ref f32) = true)
    (g33 : PySem.W.nsIn K mainGlobals "swaps_commuted" = some (some (.ref f33)))
    (l33 : K.lookup f33 = some ⟨oc33, od33, .func (PySem.W.fnOf "swaps_commuted" "swaps_commuted" (defArgs s_swaps_commuted) (defBody s_swaps_commuted) (defScope s_swaps_commuted) .none kV33 dc33 pm33 an33 cd33 ct33), sl33⟩)
    (c33 : PySem.W.codeIn K cd33 "swaps_commuted" = true)
    (k33 : PySem.W.keepIn K (.ref f33) = true)
    (g34 : PySem.W.nsIn K mainGlobals "inside_commuted" = some (some (.ref f34)))
    (l34 : K.lookup f34 = some ⟨oc34, od34, .func (PySem.W.fnOf "inside_commuted" "inside_commuted" (defArgs s_inside_commuted) (defBody s_inside_commuted) (defScope s_inside_commuted) .none kV34 dc34 pm34 an34 cd34 ct34), sl34⟩)
    (c34 : PySem.W.codeIn K cd34 "inside_commuted" = true)
    (k34 : PySem.W.keepIn K (.ref f34) = true)
    (g35 : PySem.W.nsIn K mainGlobals "commuted" = some (some (.ref f35)))
    (l35 : K.lookup f35 = some ⟨oc35, od35, .func (PySem.W.fnOf "commuted" "commuted" (defArgs s_commuted) (defBody s_commuted) (defScope s_commuted) .none kV35 dc35 pm35 an35 cd35 ct35), sl35⟩)
    (c35 : PySem.W.codeIn K cd35 "commuted" = true)
    (k35 : PySem.W.keepIn K (.ref f35) = true)
    (g36 : PySem.W.nsIn K mainGlobals "brought_ahead" = some (some (.ref f36)))
    (l36 : K.lookup f36 = some ⟨oc36, od36, .func (PySem.W.fnOf "brought_ahead" "brought_ahead" (defArgs s_brought_ahead) (defBody s_brought_ahead) (defScope s_brought_ahead) .none kV36 dc36 pm36 an36 cd36 ct36), sl36⟩)
    (c36 : PySem.W.codeIn K cd36 "brought_ahead" = true)
    (k36 : PySem.W.keepIn K (.ref f36) = true)
    (g37 : PySem.W.nsIn K mainGlobals "brought_behind" = some (some (.ref f37)))
    (l37 : K.lookup f37 = some ⟨oc37, od37, .func (PySem.W.fnOf "brought_behind" "brought_behind" (defArgs s_brought_behind) (defBody s_brought_behind) (defScope s_brought_behind) .none kV37 dc37 pm37 an37 cd37 ct37), sl37⟩)
    (c37 : PySem.W.codeIn K cd37 "brought_behind" = true)
    (k37 : PySem.W.keepIn K (.ref f37) = true)
    (g38 : PySem.W.nsIn K mainGlobals "row_brought_ahead" = some (some (.ref f38)))
    (l38 : K.lookup f38 = some ⟨oc38, od38, .func (PySem.W.fnOf "row_brought_ahead" "row_brought_ahead" (defArgs s_row_brought_ahead) (defBody s_row_brought_ahead) (defScope s_row_brought_ahead) .none kV38 dc38 pm38 an38 cd38 ct38), sl38⟩)
    (c38 : PySem.W.codeIn K cd38 "row_brought_ahead" = true)
    (k38 : PySem.W.keepIn K (.ref f38) = true)
    (g39 : PySem.W.nsIn K mainGlobals "merged" = some (some (.ref f39)))
    (l39 : K.lookup f39 = some ⟨oc39, od39, .func (PySem.W.fnOf "merged" "merged" (defArgs s_merged) (defBody s_merged) (defScope s_merged) .none kV39 dc39 pm39 an39 cd39 ct39), sl39⟩)
    (c39 : PySem.W.codeIn K cd39 "merged" = true)
    (k39 : PySem.W.keepIn K (.ref f39) = true)
    (m40 : PySem.W.findIn K (.ref C_Block) "__init__" = some (some (.ref f40)))
    (i40 : PySem.W.isFn K (.ref f40) = true)
    (l40 : K.lookup f40 = some ⟨oc40, od40, .func (PySem.W.fnOf "__init__" "Block.__init__" (defArgs s_Block_init) (defBody s_Block_init) (defScope s_Block_init) .none kV40 dc40 pm40 an40 cd40 ct40), sl40⟩)
    (c40 : PySem.W.codeIn K cd40 "Block.__init__" = true)
    (k40 : PySem.W.keepIn K (.ref f40) = true)
    (g41 : PySem.W.nsIn K mainGlobals "block_of" = some (some (.ref f41)))
    (l41 : K.lookup f41 = some ⟨oc41, od41, .func (PySem.W.fnOf "block_of" "block_of" (defArgs s_block_of) (defBody s_block_of) (defScope s_block_of) .none kV41 dc41 pm41 an41 cd41 ct41), sl41⟩)
    (c41 : PySem.W.codeIn K cd41 "block_of" = true)
    (k41 : PySem.W.keepIn K (.ref f41) = true)
    (g42 : PySem.W.nsIn K mainGlobals "all_blocks" = some (some (.ref f42)))
    (l42 : K.lookup f42 = some ⟨oc42, od42, .func (PySem.W.fnOf "all_blocks" "all_blocks" (defArgs s_all_blocks) (defBody s_all_blocks) (defScope s_all_blocks) .none kV42 dc42 pm42 an42 cd42 ct42), sl42⟩)
    (c42 : PySem.W.codeIn K cd42 "all_blocks" = true)
    (k42 : PySem.W.keepIn K (.ref f42) = true)
    (g43 : PySem.W.nsIn K mainGlobals "conflicting" = some (some (.ref f43)))
    (l43 : K.lookup f43 = some ⟨oc43, od43, .func (PySem.W.fnOf "conflicting" "conflicting" (defArgs s_conflicting) (defBody s_conflicting) (defScope s_conflicting) .none kV43 dc43 pm43 an43 cd43 ct43), sl43⟩)
    (c43 : PySem.W.codeIn K cd43 "conflicting" = true)
    (k43 : PySem.W.keepIn K (.ref f43) = true)
    (g44 : PySem.W.nsIn K mainGlobals "first_conflicts" = some (some (.ref f44)))
    (l44 : K.lookup f44 = some ⟨oc44, od44, .func (PySem.W.fnOf "first_conflicts" "first_conflicts" (defArgs s_first_conflicts) (defBody s_first_conflicts) (defScope s_first_conflicts) .none kV44 dc44 pm44 an44 cd44 ct44), sl44⟩)
    (c44 : PySem.W.codeIn K cd44 "first_conflicts" = true)
    (k44 : PySem.W.keepIn K (.ref f44) = true)
    (g45 : PySem.W.nsIn K mainGlobals "taken_out" = some (some (.ref f45)))
    (l45 : K.lookup f45 = some ⟨oc45, od45, .func (PySem.W.fnOf "taken_out" "taken_out" (defArgs s_taken_out) (defBody s_taken_out) (defScope s_taken_out) .none kV45 dc45 pm45 an45 cd45 ct45), sl45⟩)
    (c45 : PySem.W.codeIn K cd45 "taken_out" = true)
    (k45 : PySem.W.keepIn K (.ref f45) = true)
    (g46 : PySem.W.nsIn K mainGlobals "what_is_left" = some (some (.ref f46)))
    (l46 : K.lookup f46 = some ⟨oc46, od46, .func (PySem.W.fnOf "what_is_left" "what_is_left" (defArgs s_what_is_left) (defBody s_what_is_left) (defScope s_what_is_left) .none kV46 dc46 pm46 an46 cd46 ct46), sl46⟩)
    (c46 : PySem.W.codeIn K cd46 "what_is_left" = true)
    (k46 : PySem.W.keepIn K (.ref f46) = true)
    (m47 : PySem.W.findIn K (.ref C_House) "__init__" = some (some (.ref f47)))
    (i47 : PySem.W.isFn K (.ref f47) = true)
    (l47 : K.lookup f47 = some ⟨oc47, od47, .func (PySem.W.fnOf "__init__" "House.__init__" (defArgs s_House_init) (defBody s_House_init) (defScope s_House_init) .none kV47 dc47 pm47 an47 cd47 ct47), sl47⟩)
    (c47 : PySem.W.codeIn K cd47 "House.__init__" = true)
    (k47 : PySem.W.keepIn K (.ref f47) = true)
    (m48 : PySem.W.findIn K (.ref C_House) "set_tree" = some (some (.ref f48)))
    (i48 : PySem.W.isFn K (.ref f48) = true)
    (l48 : K.lookup f48 = some ⟨oc48, od48, .func (PySem.W.fnOf "set_tree" "House.set_tree" (defArgs s_House_set_tree) (defBody s_House_set_tree) (defScope s_House_set_tree) .none kV48 dc48 pm48 an48 cd48 ct48), sl48⟩)
    (c48 : PySem.W.codeIn K cd48 "House.set_tree" = true)
    (k48 : PySem.W.keepIn K (.ref f48) = true)
    (m49 : PySem.W.findIn K (.ref C_House) "row_fault" = some (some (.ref f49)))
    (i49 : PySem.W.isFn K (.ref f49) = true)
    (l49 : K.lookup f49 = some ⟨oc49, od49, .func (PySem.W.fnOf "row_fault" "House.row_fault" (defArgs s_House_row_fault) (defBody s_House_row_fault) (defScope s_House_row_fault) .none kV49 dc49 pm49 an49 cd49 ct49), sl49⟩)
    (c49 : PySem.W.codeIn K cd49 "House.row_fault" = true)
    (k49 : PySem.W.keepIn K (.ref f49) = true)
    (m50 : PySem.W.findIn K (.ref C_House) "pair_fault" = some (some (.ref f50)))
    (i50 : PySem.W.isFn K (.ref f50) = true)
    (l50 : K.lookup f50 = some ⟨oc50, od50, .func (PySem.W.fnOf "pair_fault" "House.pair_fault" (defArgs s_House_pair_fault) (defBody s_House_pair_fault) (defScope s_House_pair_fault) .none kV50 dc50 pm50 an50 cd50 ct50), sl50⟩)
    (c50 : PySem.W.codeIn K cd50 "House.pair_fault" = true)
    (k50 : PySem.W.keepIn K (.ref f50) = true)
    (m51 : PySem.W.findIn K (.ref C_House) "put_row" = some (some (.ref f51)))
    (i51 : PySem.W.isFn K (.ref f51) = true)
    (l51 : K.lookup f51 = some ⟨oc51, od51, .func (PySem.W.fnOf "put_row" "House.put_row" (defArgs s_House_put_row) (defBody s_House_put_row) (defScope s_House_put_row) .none kV51 dc51 pm51 an51 cd51 ct51), sl51⟩)
    (c51 : PySem.W.codeIn K cd51 "House.put_row" = true)
    (k51 : PySem.W.keepIn K (.ref f51) = true)
    (m52 : PySem.W.findIn K (.ref C_House) "add_step" = some (some (.ref f52)))
    (i52 : PySem.W.isFn K (.ref f52) = true)
    (l52 : K.lookup f52 = some ⟨oc52, od52, .func (PySem.W.fnOf "add_step" "House.add_step" (defArgs s_House_add_step) (defBody s_House_add_step) (defScope s_House_add_step) .none kV52 dc52 pm52 an52 cd52 ct52), sl52⟩)
    (c52 : PySem.W.codeIn K cd52 "House.add_step" = true)
    (k52 : PySem.W.keepIn K (.ref f52) = true)
    (m53 : PySem.W.findIn K (.ref C_House) "shown" = some (some (.ref f53)))
    (i53 : PySem.W.isFn K (.ref f53) = true)
    (l53 : K.lookup f53 = some ⟨oc53, od53, .func (PySem.W.fnOf "shown" "House.shown" (defArgs s_House_shown) (defBody s_House_shown) (defScope s_House_shown) .none kV53 dc53 pm53 an53 cd53 ct53), sl53⟩)
    (c53 : PySem.W.codeIn K cd53 "House.shown" = true)
    (k53 : PySem.W.keepIn K (.ref f53) = true)
    (m54 : PySem.W.findIn K (.ref C_House) "outcome" = some (some (.ref f54)))
    (i54 : PySem.W.isFn K (.ref f54) = true)
    (l54 : K.lookup f54 = some ⟨oc54, od54, .func (PySem.W.fnOf "outcome" "House.outcome" (defArgs s_House_outcome) (defBody s_House_outcome) (defScope s_House_outcome) .none kV54 dc54 pm54 an54 cd54 ct54), sl54⟩)
    (c54 : PySem.W.codeIn K cd54 "House.outcome" = true)
    (k54 : PySem.W.keepIn K (.ref f54) = true)
    (m55 : PySem.W.findIn K (.ref C_House) "merge" = some (some (.ref f55)))
    (i55 : PySem.W.isFn K (.ref f55) = true)
    (l55 : K.lookup f55 = some ⟨oc55, od55, .func (PySem.W.fnOf "merge" "House.merge" (defArgs s_House_merge) (defBody s_House_merge) (defScope s_House_merge) .none kV55 dc55 pm55 an55 cd55 ct55), sl55⟩)
    (c55 : PySem.W.codeIn K cd55 "House.merge" = true)
    (k55 : PySem.W.keepIn K (.ref f55) = true)
    (m56 : PySem.W.findIn K (.ref C_House) "sides" = some (some (.ref f56)))
    (i56 : PySem.W.isFn K (.ref f56) = true)
    (l56 : K.lookup f56 = some ⟨oc56, od56, .func (PySem.W.fnOf "sides" "House.sides" (defArgs s_House_sides) (defBody s_House_sides) (defScope s_House_sides) .none kV56 dc56 pm56 an56 cd56 ct56), sl56⟩)
    (c56 : PySem.W.codeIn K cd56 "House.sides" = true)
    (k56 : PySem.W.keepIn K (.ref f56) = true)
    (m57 : PySem.W.findIn K (.ref C_House) "held_fault" = some (some (.ref f57)))
    (i57 : PySem.W.isFn K (.ref f57) = true)
    (l57 : K.lookup f57 = some ⟨oc57, od57, .func (PySem.W.fnOf "held_fault" "House.held_fault" (defArgs s_House_held_fault) (defBody s_House_held_fault) (defScope s_House_held_fault) .none kV57 dc57 pm57 an57 cd57 ct57), sl57⟩)
    (c57 : PySem.W.codeIn K cd57 "House.held_fault" = true)
    (k57 : PySem.W.keepIn K (.ref f57) = true)
    (m58 : PySem.W.findIn K (.ref C_House) "conflicts" = some (some (.ref f58)))
    (i58 : PySem.W.isFn K (.ref f58) = true)
    (l58 : K.lookup f58 = some ⟨oc58, od58, .func (PySem.W.fnOf "conflicts" "House.conflicts" (defArgs s_House_conflicts) (defBody s_House_conflicts) (defScope s_House_conflicts) .none kV58 dc58 pm58 an58 cd58 ct58), sl58⟩)
    (c58 : PySem.W.codeIn K cd58 "House.conflicts" = true)
    (k58 : PySem.W.keepIn K (.ref f58) = true)
    (m59 : PySem.W.findIn K (.ref C_House) "clean" = some (some (.ref f59)))
    (i59 : PySem.W.isFn K (.ref f59) = true)
    (l59 : K.lookup f59 = some ⟨oc59, od59, .func (PySem.W.fnOf "clean" "House.clean" (defArgs s_House_clean) (defBody s_House_clean) (defScope s_House_clean) .none kV59 dc59 pm59 an59 cd59 ct59), sl59⟩)
    (c59 : PySem.W.codeIn K cd59 "House.clean" = true)
    (k59 : PySem.W.keepIn K (.ref f59) = true)
    (m60 : PySem.W.findIn K (.ref C_House) "are_rows" = some (some (.ref f60)))
    (i60 : PySem.W.isFn K (.ref f60) = true)
    (l60 : K.lookup f60 = some ⟨oc60, od60, .func (PySem.W.fnOf "are_rows" "House.are_rows" (defArgs s_House_are_rows) (defBody s_House_are_rows) (defScope s_House_are_rows) .none kV60 dc60 pm60 an60 cd60 ct60), sl60⟩)
    (c60 : PySem.W.codeIn K cd60 "House.are_rows" = true)
    (k60 : PySem.W.keepIn K (.ref f60) = true)
    (m61 : PySem.W.findIn K (.ref C_House) "all_merged" = some (some (.ref f61)))
    (i61 : PySem.W.isFn K (.ref f61) = true)
    (l61 : K.lookup f61 = some ⟨oc61, od61, .func (PySem.W.fnOf "all_merged" "House.all_merged" (defArgs s_House_all_merged) (defBody s_House_all_merged) (defScope s_House_all_merged) .none kV61 dc61 pm61 an61 cd61 ct61), sl61⟩)
    (c61 : PySem.W.codeIn K cd61 "House.all_merged" = true)
    (k61 : PySem.W.keepIn K (.ref f61) = true)
    (m62 : PySem.W.findIn K (.ref C_House) "pull" = some (some (.ref f62)))
    (i62 : PySem.W.isFn K (.ref f62) = true)
    (l62 : K.lookup f62 = some ⟨oc62, od62, .func (PySem.W.fnOf "pull" "House.pull" (defArgs s_House_pull) (defBody s_House_pull) (defScope s_House_pull) .none kV62 dc62 pm62 an62 cd62 ct62), sl62⟩)
    (c62 : PySem.W.codeIn K cd62 "House.pull" = true)
    (k62 : PySem.W.keepIn K (.ref f62) = true)
    (m63 : PySem.W.findIn K (.ref C_House) "drop" = some (some (.ref f63)))
    (i63 : PySem.W.isFn K (.ref f63) = true)
    (l63 : K.lookup f63 = some ⟨oc63, od63, .func (PySem.W.fnOf "drop" "House.drop" (defArgs s_House_drop) (defBody s_House_drop) (defScope s_House_drop) .none kV63 dc63 pm63 an63 cd63 ct63), sl63⟩)
    (c63 : PySem.W.codeIn K cd63 "House.drop" = true)
    (k63 : PySem.W.keepIn K (.ref f63) = true)
    (m64 : PySem.W.findIn K (.ref C_House) "two" = some (some (.ref f64)))
    (i64 : PySem.W.isFn K (.ref f64) = true)
    (l64 : K.lookup f64 = some ⟨oc64, od64, .func (PySem.W.fnOf "two" "House.two" (defArgs s_House_two) (defBody s_House_two) (defScope s_House_two) .none kV64 dc64 pm64 an64 cd64 ct64), sl64⟩)
    (c64 : PySem.W.codeIn K cd64 "House.two" = true)
    (k64 : PySem.W.keepIn K (.ref f64) = true)
    (g65 : PySem.W.nsIn K mainGlobals "told_of_row" = some (some (.ref f65)))
    (l65 : K.lookup f65 = some ⟨oc65, od65, .func (PySem.W.fnOf "told_of_row" "told_of_row" (defArgs s_told_of_row) (defBody s_told_of_row) (defScope s_told_of_row) .none kV65 dc65 pm65 an65 cd65 ct65), sl65⟩)
    (c65 : PySem.W.codeIn K cd65 "told_of_row" = true)
    (k65 : PySem.W.keepIn K (.ref f65) = true)
    (g66 : PySem.W.nsIn K mainGlobals "told_of_two" = some (some (.ref f66)))
    (l66 : K.lookup f66 = some ⟨oc66, od66, .func (PySem.W.fnOf "told_of_two" "told_of_two" (defArgs s_told_of_two) (defBody s_told_of_two) (defScope s_told_of_two) .none kV66 dc66 pm66 an66 cd66 ct66), sl66⟩)
    (c66 : PySem.W.codeIn K cd66 "told_of_two" = true)
    (k66 : PySem.W.keepIn K (.ref f66) = true)
    (g67 : PySem.W.nsIn K mainGlobals "answers" = some (some (.ref f67)))
    (l67 : K.lookup f67 = some ⟨oc67, od67, .func (PySem.W.fnOf "answers" "answers" (defArgs s_answers) (defBody s_answers) (defScope s_answers) .none kV67 dc67 pm67 an67 cd67 ct67), sl67⟩)
    (c67 : PySem.W.codeIn K cd67 "answers" = true)
    (k67 : PySem.W.keepIn K (.ref f67) = true)
    (pg_Step : PySem.W.plainGet K C_Step Str.empty = true)
    (hd_Step : PySem.W.hasDictIn K C_Step = true)
    (po_Step : PySem.W.plainOver K C_Step = true)
    (sa_Step : PySem.W.findIn K (.ref C_Step) "__setattr__" = some (some (.builtin "object.__setattr__")))
    (mk_Step : PySem.W.makesIn K C_Step = true)
    (kc_Step : PySem.W.keepIn K (.ref C_Step) = true)
    (na_Step_kind : PySem.W.findIn K (.ref C_Step) "kind" = some none)
    (na_Step_name : PySem.W.findIn K (.ref C_Step) "name" = some none)
    (na_Step_place : PySem.W.findIn K (.ref C_Step) "place" = some none)
    (na_Step_old : PySem.W.findIn K (.ref C_Step) "old" = some none)
    (na_Step_new : PySem.W.findIn K (.ref C_Step) "new" = some none)
    (na_Step_goal : PySem.W.findIn K (.ref C_Step) "goal" = some none)
    (pg_Tree : PySem.W.plainGet K C_Tree Str.empty = true)
    (hd_Tree : PySem.W.hasDictIn K C_Tree = true)
    (po_Tree : PySem.W.plainOver K C_Tree = true)
    (sa_Tree : PySem.W.findIn K (.ref C_Tree) "__setattr__" = some (some (.builtin "object.__setattr__")))
    (mk_Tree : PySem.W.makesIn K C_Tree = true)
    (kc_Tree : PySem.W.keepIn K (.ref C_Tree) = true)
    (na_Tree_files : PySem.W.findIn K (.ref C_Tree) "files" = some none)
    (pg_Block : PySem.W.plainGet K C_Block Str.empty = true)
    (hd_Block : PySem.W.hasDictIn K C_Block = true)
    (po_Block : PySem.W.plainOver K C_Block = true)
    (sa_Block : PySem.W.findIn K (.ref C_Block) "__setattr__" = some (some (.builtin "object.__setattr__")))
    (mk_Block : PySem.W.makesIn K C_Block = true)
    (kc_Block : PySem.W.keepIn K (.ref C_Block) = true)
    (na_Block_among : PySem.W.findIn K (.ref C_Block) "among" = some none)
    (na_Block_row : PySem.W.findIn K (.ref C_Block) "row" = some none)
    (pg_House : PySem.W.plainGet K C_House Str.empty = true)
    (hd_House : PySem.W.hasDictIn K C_House = true)
    (po_House : PySem.W.plainOver K C_House = true)
    (sa_House : PySem.W.findIn K (.ref C_House) "__setattr__" = some (some (.builtin "object.__setattr__")))
    (mk_House : PySem.W.makesIn K C_House = true)
    (kc_House : PySem.W.keepIn K (.ref C_House) = true)
    (na_House_base : PySem.W.findIn K (.ref C_House) "base" = some none)
    (na_House_rows : PySem.W.findIn K (.ref C_House) "rows" = some none)
    (c_HUNK : PySem.W.nsIn K mainGlobals "HUNK" = some (some (.int 0 t_HUNK)))
    (c_SWAP : PySem.W.nsIn K mainGlobals "SWAP" = some (some (.int 1 t_SWAP)))
    (c_ADDED : PySem.W.nsIn K mainGlobals "ADDED" = some (some (.int 2 t_ADDED)))
    (c_REMOVED : PySem.W.nsIn K mainGlobals "REMOVED" = some (some (.int 3 t_REMOVED)))
    (c_MOVED : PySem.W.nsIn K mainGlobals "MOVED" = some (some (.int 4 t_MOVED)))
    (c_MOST_NAME : PySem.W.nsIn K mainGlobals "MOST_NAME" = some (some (.int 9 t_MOST_NAME)))
    (c_MOST_TOKEN : PySem.W.nsIn K mainGlobals "MOST_TOKEN" = some (some (.int 99 t_MOST_TOKEN)))
    (c_MOST_PLACE : PySem.W.nsIn K mainGlobals "MOST_PLACE" = some (some (.int 1000 t_MOST_PLACE)))
    (c_MOST_TOKENS : PySem.W.nsIn K mainGlobals "MOST_TOKENS" = some (some (.int 8 t_MOST_TOKENS)))
    (c_MOST_FILES : PySem.W.nsIn K mainGlobals "MOST_FILES" = some (some (.int 6 t_MOST_FILES)))
    (c_MOST_IN_FILE : PySem.W.nsIn K mainGlobals "MOST_IN_FILE" = some (some (.int 12 t_MOST_IN_FILE)))
    (c_NO_FORM : PySem.W.nsIn K mainGlobals "NO_FORM" = some (some (.int (-1) t_NO_FORM)))
    (c_NO_ROW : PySem.W.nsIn K mainGlobals "NO_ROW" = some (some (.int (-2) t_NO_ROW)))
    (c_SAME_ROW : PySem.W.nsIn K mainGlobals "SAME_ROW" = some (some (.int (-3) t_SAME_ROW)))
    (c_DOESNT_FIT : PySem.W.nsIn K mainGlobals "DOESNT_FIT" = some (some (.int (-4) t_DOESNT_FIT)))
    (c_TOO_MANY : PySem.W.nsIn K mainGlobals "TOO_MANY" = some (some (.int (-6) t_TOO_MANY)))
    (c_CANT_BE : PySem.W.nsIn K mainGlobals "CANT_BE" = some (some (.int (-7) t_CANT_BE)))
    (c_NO_TREE : PySem.W.nsIn K mainGlobals "NO_TREE" = some (some (.int (-8) t_NO_TREE)))
    (c_ROWS_house : PySem.W.nsIn K mainGlobals "ROWS_house" = some (some (.int 4 t_ROWS_house)))
    (c_MOST_STEPS : PySem.W.nsIn K mainGlobals "MOST_STEPS" = some (some (.int 8 t_MOST_STEPS)))
    (c_MOST_PULLED : PySem.W.nsIn K mainGlobals "MOST_PULLED" = some (some (.int 24 t_MOST_PULLED)))
    (c_NUMBERS : PySem.W.nsIn K mainGlobals "NUMBERS" = some (some (.ref T_NUMBERS)))
    (s_NUMBERS : K.lookup T_NUMBERS = some ⟨.type "tuple", none, .seq i_NUMBERS n_NUMBERS, z_NUMBERS⟩)
    (v_NUMBERS : valsI i_NUMBERS.toList = some [0, 1, 1, 1, 2, 2, 2, 2, 0, 2, 1, 0])
    (c_ROWS_merging : PySem.W.nsIn K mainGlobals "ROWS_merging" = some (some (.ref T_ROWS_merging)))
    (s_ROWS_merging : K.lookup T_ROWS_merging = some ⟨.type "tuple", none, .seq i_ROWS_merging n_ROWS_merging, z_ROWS_merging⟩)
    (v_ROWS_merging : valsI i_ROWS_merging.toList = some [1, 1, 0, 0, 0, 0, 0, 0, 1, 0, 0, 2])
    (b_len : PySem.W.nsIn K mainGlobals "len" = some none)
    (b_list : PySem.W.nsIn K mainGlobals "list" = some none)
    (b_tuple : PySem.W.nsIn K mainGlobals "tuple" = some none)
    (b_reversed : PySem.W.nsIn K mainGlobals "reversed" = some none)
    (b_range : PySem.W.nsIn K mainGlobals "range" = some none)
    (b_sorted : PySem.W.nsIn K mainGlobals "sorted" = some none)
    (b_dict : PySem.W.nsIn K mainGlobals "dict" = some none)
    (b_set : PySem.W.nsIn K mainGlobals "set" = some none)
    (b_enumerate : PySem.W.nsIn K mainGlobals "enumerate" = some none)
    (b_max : PySem.W.nsIn K mainGlobals "max" = some none) :
    ∃ X : Txt K mg, X.d_answers.f = f67 ∧ X.d_answers.fd = PySem.W.fnOf "answers" "answers" (defArgs s_answers) (defBody s_answers) (defScope s_answers) .none kV67 dc67 pm67 an67 cd67 ct67 := by
  have F0 := fun_mk (st := s_Step_init) l0 c0 k0
  have b0 := F0.binds (ps := ["self", "kind", "name", "place", "old", "new", "goal"]) fun _ _ _ _ _ _ us hl => match us, hl with | [_, _, _, _, _, _, _], _ => rfl
  have F1 := fun_mk (st := s_Step_names) l1 c1 k1
  have b1 := F1.binds (ps := ["self"]) fun _ _ _ _ _ _ us hl => match us, hl with | [_], _ => rfl
  have F2 := fun_mk (st := s_Step_is_inside) l2 c2 k2
  have b2 := F2.binds (ps := ["self"]) fun _ _ _ _ _ _ us hl => match us, hl with | [_], _ => rfl
  have F3 := fun_mk (st := s_Step_at_place) l3 c3 k3
  have b3 := F3.binds (ps := ["self", "place"]) fun _ _ _ _ _ _ us hl => match us, hl with | [_, _], _ => rfl
  have F4 := fun_mk (st := s_Step_in_file) l4 c4 k4
  have b4 := F4.binds (ps := ["self", "name"]) fun _ _ _ _ _ _ us hl => match us, hl with | [_, _], _ => rfl
  have F5 := fun_mk (st := s_Step_with_tokens) l5 c5 k5
  have b5 := F5.binds (ps := ["self", "old", "new"]) fun _ _ _ _ _ _ us hl => match us, hl with | [_, _, _], _ => rfl
  have F6 := fun_mk (st := s_Step_turned) l6 c6 k6
  have b6 := F6.binds (ps := ["self"]) fun _ _ _ _ _ _ us hl => match us, hl with | [_], _ => rfl
  have F7 := fun_mk (st := s_Step_numbers) l7 c7 k7
  have b7 := F7.binds (ps := ["self"]) fun _ _ _ _ _ _ us hl => match us, hl with | [_], _ => rfl
  have F8 := fun_mk (st := s_turned_row) l8 c8 k8
  have b8 := F8.binds (ps := ["row"]) fun _ _ _ _ _ _ us hl => match us, hl with | [_], _ => rfl
  have F9 := fun_mk (st := s_row_numbers) l9 c9 k9
  have b9 := F9.binds (ps := ["row"]) fun _ _ _ _ _ _ us hl => match us, hl with | [_], _ => rfl
  have F10 := fun_mk (st := s_is_name) l10 c10 k10
  have b10 := F10.binds (ps := ["number"]) fun _ _ _ _ _ _ us hl => match us, hl with | [_], _ => rfl
  have F11 := fun_mk (st := s_is_token) l11 c11 k11
  have b11 := F11.binds (ps := ["number"]) fun _ _ _ _ _ _ us hl => match us, hl with | [_], _ => rfl
  have F12 := fun_mk (st := s_are_tokens) l12 c12 k12
  have b12 := F12.binds (ps := ["numbers"]) fun _ _ _ _ _ _ us hl => match us, hl with | [_], _ => rfl
  have F13 := fun_mk (st := s_counted_row) l13 c13 k13
  have b13 := F13.binds (ps := ["numbers", "at", "most"]) fun _ _ _ _ _ _ us hl => match us, hl with | [_, _, _], _ => rfl
  have F14 := fun_mk (st := s_read_hunk) l14 c14 k14
  have b14 := F14.binds (ps := ["numbers"]) fun _ _ _ _ _ _ us hl => match us, hl with | [_], _ => rfl
  have F15 := fun_mk (st := s_read_swap) l15 c15 k15
  have b15 := F15.binds (ps := ["numbers"]) fun _ _ _ _ _ _ us hl => match us, hl with | [_], _ => rfl
  have F16 := fun_mk (st := s_read_moved) l16 c16 k16
  have b16 := F16.binds (ps := ["numbers"]) fun _ _ _ _ _ _ us hl => match us, hl with | [_], _ => rfl
  have F17 := fun_mk (st := s_read_step) l17 c17 k17
  have b17 := F17.binds (ps := ["numbers"]) fun _ _ _ _ _ _ us hl => match us, hl with | [_], _ => rfl
  have F18 := fun_mk (st := s_swapped) l18 c18 k18
  have b18 := F18.binds (ps := ["tokens", "one", "other"]) fun _ _ _ _ _ _ us hl => match us, hl with | [_, _, _], _ => rfl
  have F19 := fun_mk (st := s_Tree_init) l19 c19 k19
  have b19 := F19.binds (ps := ["self", "files"]) fun _ _ _ _ _ _ us hl => match us, hl with | [_, _], _ => rfl
  have F20 := fun_mk (st := s_Tree_has) l20 c20 k20
  have b20 := F20.binds (ps := ["self", "name"]) fun _ _ _ _ _ _ us hl => match us, hl with | [_, _], _ => rfl
  have F21 := fun_mk (st := s_Tree_tokens) l21 c21 k21
  have b21 := F21.binds (ps := ["self", "name"]) fun _ _ _ _ _ _ us hl => match us, hl with | [_, _], _ => rfl
  have F22 := fun_mk (st := s_Tree_fits_hunk) l22 c22 k22
  have b22 := F22.binds (ps := ["self", "step"]) fun _ _ _ _ _ _ us hl => match us, hl with | [_, _], _ => rfl
  have F23 := fun_mk (st := s_Tree_fits) l23 c23 k23
  have b23 := F23.binds (ps := ["self", "step"]) fun _ _ _ _ _ _ us hl => match us, hl with | [_, _], _ => rfl
  have F24 := fun_mk (st := s_Tree_with_file) l24 c24 k24
  have b24 := F24.binds (ps := ["self", "name", "tokens"]) fun _ _ _ _ _ _ us hl => match us, hl with | [_, _, _], _ => rfl
  have F25 := fun_mk (st := s_Tree_without) l25 c25 k25
  have b25 := F25.binds (ps := ["self", "name"]) fun _ _ _ _ _ _ us hl => match us, hl with | [_, _], _ => rfl
  have F26 := fun_mk (st := s_Tree_applied) l26 c26 k26
  have b26 := F26.binds (ps := ["self", "step"]) fun _ _ _ _ _ _ us hl => match us, hl with | [_, _], _ => rfl
  have F27 := fun_mk (st := s_Tree_behind) l27 c27 k27
  have b27 := F27.binds (ps := ["self", "row"]) fun _ _ _ _ _ _ us hl => match us, hl with | [_, _], _ => rfl
  have F28 := fun_mk (st := s_Tree_numbers) l28 c28 k28
  have b28 := F28.binds (ps := ["self"]) fun _ _ _ _ _ _ us hl => match us, hl with | [_], _ => rfl
  have F29 := fun_mk (st := s_read_tree) l29 c29 k29
  have b29 := F29.binds (ps := ["numbers"]) fun _ _ _ _ _ _ us hl => match us, hl with | [_], _ => rfl
  have F30 := fun_mk (st := s_have_name_in_common) l30 c30 k30
  have b30 := F30.binds (ps := ["one", "other"]) fun _ _ _ _ _ _ us hl => match us, hl with | [_, _], _ => rfl
  have F31 := fun_mk (st := s_hunks_commuted) l31 c31 k31
  have b31 := F31.binds (ps := ["p", "q"]) fun _ _ _ _ _ _ us hl => match us, hl with | [_, _], _ => rfl
  have F32 := fun_mk (st := s_with_swapped) l32 c32 k32
  have b32 := F32.binds (ps := ["hunk", "swap"]) fun _ _ _ _ _ _ us hl => match us, hl with | [_, _], _ => rfl
  have F33 := fun_mk (st := s_swaps_commuted) l33 c33 k33
  have b33 := F33.binds (ps := ["p", "q"]) fun _ _ _ _ _ _ us hl => match us, hl with | [_, _], _ => rfl
  have F34 := fun_mk (st := s_inside_commuted) l34 c34 k34
  have b34 := F34.binds (ps := ["p", "q"]) fun _ _ _ _ _ _ us hl => match us, hl with | [_, _], _ => rfl
  have F35 := fun_mk (st := s_commuted) l35 c35 k35
  have b35 := F35.binds (ps := ["p", "q"]) fun _ _ _ _ _ _ us hl => match us, hl with | [_, _], _ => rfl
  have F36 := fun_mk (st := s_brought_ahead) l36 c36 k36
  have b36 := F36.binds (ps := ["row", "step"]) fun _ _ _ _ _ _ us hl => match us, hl with | [_, _], _ => rfl
  have F37 := fun_mk (st := s_brought_behind) l37 c37 k37
  have b37 := F37.binds (ps := ["step", "row"]) fun _ _ _ _ _ _ us hl => match us, hl with | [_, _], _ => rfl
  have F38 := fun_mk (st := s_row_brought_ahead) l38 c38 k38
  have b38 := F38.binds (ps := ["row", "other"]) fun _ _ _ _ _ _ us hl => match us, hl with | [_, _], _ => rfl
  have F39 := fun_mk (st := s_merged) l39 c39 k39
  have b39 := F39.binds (ps := ["row", "other"]) fun _ _ _ _ _ _ us hl => match us, hl with | [_, _], _ => rfl
  have F40 := fun_mk (st := s_Block_init) l40 c40 k40
  have b40 := F40.binds (ps := ["self", "numbers", "row"]) fun _ _ _ _ _ _ us hl => match us, hl with | [_, _, _], _ => rfl
  have F41 := fun_mk (st := s_block_of) l41 c41 k41
  have b41 := F41.binds (ps := ["row", "number"]) fun _ _ _ _ _ _ us hl => match us, hl with | [_, _], _ => rfl
  have F42 := fun_mk (st := s_all_blocks) l42 c42 k42
  have b42 := F42.binds (ps := ["row"]) fun _ _ _ _ _ _ us hl => match us, hl with | [_], _ => rfl
  have F43 := fun_mk (st := s_conflicting) l43 c43 k43
  have b43 := F43.binds (ps := ["row", "other"]) fun _ _ _ _ _ _ us hl => match us, hl with | [_, _], _ => rfl
  have F44 := fun_mk (st := s_first_conflicts) l44 c44 k44
  have b44 := F44.binds (ps := ["row", "other"]) fun _ _ _ _ _ _ us hl => match us, hl with | [_, _], _ => rfl
  have F45 := fun_mk (st := s_taken_out) l45 c45 k45
  have b45 := F45.binds (ps := ["row", "number"]) fun _ _ _ _ _ _ us hl => match us, hl with | [_, _], _ => rfl
  have F46 := fun_mk (st := s_what_is_left) l46 c46 k46
  have b46 := F46.binds (ps := ["row", "numbers"]) fun _ _ _ _ _ _ us hl => match us, hl with | [_, _], _ => rfl
  have F47 := fun_mk (st := s_House_init) l47 c47 k47
  have b47 := F47.binds (ps := ["self"]) fun _ _ _ _ _ _ us hl => match us, hl with | [_], _ => rfl
  have F48 := fun_mk (st := s_House_set_tree) l48 c48 k48
  have b48 := F48.binds (ps := ["self", "numbers"]) fun _ _ _ _ _ _ us hl => match us, hl with | [_, _], _ => rfl
  have F49 := fun_mk (st := s_House_row_fault) l49 c49 k49
  have b49 := F49.binds (ps := ["self", "row"]) fun _ _ _ _ _ _ us hl => match us, hl with | [_, _], _ => rfl
  have F50 := fun_mk (st := s_House_pair_fault) l50 c50 k50
  have b50 := F50.binds (ps := ["self", "row", "other"]) fun _ _ _ _ _ _ us hl => match us, hl with | [_, _, _], _ => rfl
  have F51 := fun_mk (st := s_House_put_row) l51 c51 k51
  have b51 := F51.binds (ps := ["self", "number", "row"]) fun _ _ _ _ _ _ us hl => match us, hl with | [_, _, _], _ => rfl
  have F52 := fun_mk (st := s_House_add_step) l52 c52 k52
  have b52 := F52.binds (ps := ["self", "number", "numbers"]) fun _ _ _ _ _ _ us hl => match us, hl with | [_, _, _], _ => rfl
  have F53 := fun_mk (st := s_House_shown) l53 c53 k53
  have b53 := F53.binds (ps := ["self", "number"]) fun _ _ _ _ _ _ us hl => match us, hl with | [_, _], _ => rfl
  have F54 := fun_mk (st := s_House_outcome) l54 c54 k54
  have b54 := F54.binds (ps := ["self", "number"]) fun _ _ _ _ _ _ us hl => match us, hl with | [_, _], _ => rfl
  have F55 := fun_mk (st := s_House_merge) l55 c55 k55
  have b55 := F55.binds (ps := ["self", "one", "other"]) fun _ _ _ _ _ _ us hl => match us, hl with | [_, _, _], _ => rfl
  have F56 := fun_mk (st := s_House_sides) l56 c56 k56
  have b56 := F56.binds (ps := ["self", "one", "other"]) fun _ _ _ _ _ _ us hl => match us, hl with | [_, _, _], _ => rfl
  have F57 := fun_mk (st := s_House_held_fault) l57 c57 k57
  have b57 := F57.binds (ps := ["self", "one", "other"]) fun _ _ _ _ _ _ us hl => match us, hl with | [_, _, _], _ => rfl
  have F58 := fun_mk (st := s_House_conflicts) l58 c58 k58
  have b58 := F58.binds (ps := ["self", "one", "other"]) fun _ _ _ _ _ _ us hl => match us, hl with | [_, _, _], _ => rfl
  have F59 := fun_mk (st := s_House_clean) l59 c59 k59
  have b59 := F59.binds (ps := ["self", "one", "other"]) fun _ _ _ _ _ _ us hl => match us, hl with | [_, _, _], _ => rfl
  have F60 := fun_mk (st := s_House_are_rows) l60 c60 k60
  have b60 := F60.binds (ps := ["self", "numbers"]) fun _ _ _ _ _ _ us hl => match us, hl with | [_, _], _ => rfl
  have F61 := fun_mk (st := s_House_all_merged) l61 c61 k61
  have b61 := F61.binds (ps := ["self", "numbers"]) fun _ _ _ _ _ _ us hl => match us, hl with | [_, _], _ => rfl
  have F62 := fun_mk (st := s_House_pull) l62 c62 k62
  have b62 := F62.binds (ps := ["self", "one", "other"]) fun _ _ _ _ _ _ us hl => match us, hl with | [_, _, _], _ => rfl
  have F63 := fun_mk (st := s_House_drop) l63 c63 k63
  have b63 := F63.binds (ps := ["self", "number"]) fun _ _ _ _ _ _ us hl => match us, hl with | [_, _], _ => rfl
  have F64 := fun_mk (st := s_House_two) l64 c64 k64
  have b64 := F64.binds (ps := ["self", "one", "other"]) fun _ _ _ _ _ _ us hl => match us, hl with | [_, _, _], _ => rfl
  have F65 := fun_mk (st := s_told_of_row) l65 c65 k65
  have b65 := F65.binds (ps := ["house", "kind", "n", "rows"]) fun _ _ _ _ _ _ us hl => match us, hl with | [_, _, _, _], _ => rfl
  have F66 := fun_mk (st := s_told_of_two) l66 c66 k66
  have b66 := F66.binds (ps := ["house", "kind", "n"]) fun _ _ _ _ _ _ us hl => match us, hl with | [_, _, _], _ => rfl
  have F67 := fun_mk (st := s_answers) l67 c67 k67
  have b67 := F67.binds (ps := ["calls"]) fun _ _ _ _ _ _ us hl => match us, hl with | [_], _ => rfl
  refine ⟨{
    C_Step := C_Step
    cl_Step := ⟨pg_Step, hd_Step, po_Step, sa_Step⟩
    g_Step := PySem.W.mg_of IK G g_Step
    na_Step_kind := na_Step_kind
    na_Step_name := na_Step_name
    na_Step_place := na_Step_place
    na_Step_old := na_Step_old
    na_Step_new := na_Step_new
    na_Step_goal := na_Step_goal
    C_Tree := C_Tree
    cl_Tree := ⟨pg_Tree, hd_Tree, po_Tree, sa_Tree⟩
    g_Tree := PySem.W.mg_of IK G g_Tree
    na_Tree_files := na_Tree_files
    C_Block := C_Block
    cl_Block := ⟨pg_Block, hd_Block, po_Block, sa_Block⟩
    g_Block := PySem.W.mg_of IK G g_Block
    na_Block_among := na_Block_among
    na_Block_row := na_Block_row
    C_House := C_House
    cl_House := ⟨pg_House, hd_House, po_House, sa_House⟩
    g_House := PySem.W.mg_of IK G g_House
    na_House_base := na_House_base
    na_House_rows := na_House_rows
    m_Step_init := ⟨f0, _, F0, b0, ⟨m0, i0, k0⟩⟩
    m_Step_names := ⟨f1, _, F1, b1, ⟨m1, i1, k1⟩⟩
    m_Step_is_inside := ⟨f2, _, F2, b2, ⟨m2, i2, k2⟩⟩
    m_Step_at_place := ⟨f3, _, F3, b3, ⟨m3, i3, k3⟩⟩
    m_Step_in_file := ⟨f4, _, F4, b4, ⟨m4, i4, k4⟩⟩
    m_Step_with_tokens := ⟨f5, _, F5, b5, ⟨m5, i5, k5⟩⟩
    m_Step_turned := ⟨f6, _, F6, b6, ⟨m6, i6, k6⟩⟩
    m_Step_numbers := ⟨f7, _, F7, b7, ⟨m7, i7, k7⟩⟩
    d_turned_row := ⟨f8, _, F8, b8, PySem.W.mg_of IK G g8⟩
    d_row_numbers := ⟨f9, _, F9, b9, PySem.W.mg_of IK G g9⟩
    d_is_name := ⟨f10, _, F10, b10, PySem.W.mg_of IK G g10⟩
    d_is_token := ⟨f11, _, F11, b11, PySem.W.mg_of IK G g11⟩
    d_are_tokens := ⟨f12, _, F12, b12, PySem.W.mg_of IK G g12⟩
    d_counted_row := ⟨f13, _, F13, b13, PySem.W.mg_of IK G g13⟩
    d_read_hunk := ⟨f14, _, F14, b14, PySem.W.mg_of IK G g14⟩
    d_read_swap := ⟨f15, _, F15, b15, PySem.W.mg_of IK G g15⟩
    d_read_moved := ⟨f16, _, F16, b16, PySem.W.mg_of IK G g16⟩
    d_read_step := ⟨f17, _, F17, b17, PySem.W.mg_of IK G g17⟩
    d_swapped := ⟨f18, _, F18, b18, PySem.W.mg_of IK G g18⟩
    m_Tree_init := ⟨f19, _, F19, b19, ⟨m19, i19, k19⟩⟩
    m_Tree_has := ⟨f20, _, F20, b20, ⟨m20, i20, k20⟩⟩
    m_Tree_tokens := ⟨f21, _, F21, b21, ⟨m21, i21, k21⟩⟩
    m_Tree_fits_hunk := ⟨f22, _, F22, b22, ⟨m22, i22, k22⟩⟩
    m_Tree_fits := ⟨f23, _, F23, b23, ⟨m23, i23, k23⟩⟩
    m_Tree_with_file := ⟨f24, _, F24, b24, ⟨m24, i24, k24⟩⟩
    m_Tree_without := ⟨f25, _, F25, b25, ⟨m25, i25, k25⟩⟩
    m_Tree_applied := ⟨f26, _, F26, b26, ⟨m26, i26, k26⟩⟩
    m_Tree_behind := ⟨f27, _, F27, b27, ⟨m27, i27, k27⟩⟩
    m_Tree_numbers := ⟨f28, _, F28, b28, ⟨m28, i28, k28⟩⟩
    d_read_tree := ⟨f29, _, F29, b29, PySem.W.mg_of IK G g29⟩
    d_have_name_in_common := ⟨f30, _, F30, b30, PySem.W.mg_of IK G g30⟩
    d_hunks_commuted := ⟨f31, _, F31, b31, PySem.W.mg_of IK G g31⟩
    d_with_swapped := ⟨f32, _, F32, b32, PySem.W.mg_of IK G g32⟩
    d_swaps_commuted := ⟨f33, _, F33, b33, PySem.W.mg_of IK G g33⟩
    d_inside_commuted := ⟨f34, _, F34, b34, PySem.W.mg_of IK G g34⟩
    d_commuted := ⟨f35, _, F35, b35, PySem.W.mg_of IK G g35⟩
    d_brought_ahead := ⟨f36, _, F36, b36, PySem.W.mg_of IK G g36⟩
    d_brought_behind := ⟨f37, _, F37, b37, PySem.W.mg_of IK G g37⟩
    d_row_brought_ahead := ⟨f38, _, F38, b38, PySem.W.mg_of IK G g38⟩
    d_merged := ⟨f39, _, F39, b39, PySem.W.mg_of IK G g39⟩
    m_Block_init := ⟨f40, _, F40, b40, ⟨m40, i40, k40⟩⟩
    d_block_of := ⟨f41, _, F41, b41, PySem.W.mg_of IK G g41⟩
    d_all_blocks := ⟨f42, _, F42, b42, PySem.W.mg_of IK G g42⟩
    d_conflicting := ⟨f43, _, F43, b43, PySem.W.mg_of IK G g43⟩
    d_first_conflicts := ⟨f44, _, F44, b44, PySem.W.mg_of IK G g44⟩
    d_taken_out := ⟨f45, _, F45, b45, PySem.W.mg_of IK G g45⟩
    d_what_is_left := ⟨f46, _, F46, b46, PySem.W.mg_of IK G g46⟩
    m_House_init := ⟨f47, _, F47, b47, ⟨m47, i47, k47⟩⟩
    m_House_set_tree := ⟨f48, _, F48, b48, ⟨m48, i48, k48⟩⟩
    m_House_row_fault := ⟨f49, _, F49, b49, ⟨m49, i49, k49⟩⟩
    m_House_pair_fault := ⟨f50, _, F50, b50, ⟨m50, i50, k50⟩⟩
    m_House_put_row := ⟨f51, _, F51, b51, ⟨m51, i51, k51⟩⟩
    m_House_add_step := ⟨f52, _, F52, b52, ⟨m52, i52, k52⟩⟩
    m_House_shown := ⟨f53, _, F53, b53, ⟨m53, i53, k53⟩⟩
    m_House_outcome := ⟨f54, _, F54, b54, ⟨m54, i54, k54⟩⟩
    m_House_merge := ⟨f55, _, F55, b55, ⟨m55, i55, k55⟩⟩
    m_House_sides := ⟨f56, _, F56, b56, ⟨m56, i56, k56⟩⟩
    m_House_held_fault := ⟨f57, _, F57, b57, ⟨m57, i57, k57⟩⟩
    m_House_conflicts := ⟨f58, _, F58, b58, ⟨m58, i58, k58⟩⟩
    m_House_clean := ⟨f59, _, F59, b59, ⟨m59, i59, k59⟩⟩
    m_House_are_rows := ⟨f60, _, F60, b60, ⟨m60, i60, k60⟩⟩
    m_House_all_merged := ⟨f61, _, F61, b61, ⟨m61, i61, k61⟩⟩
    m_House_pull := ⟨f62, _, F62, b62, ⟨m62, i62, k62⟩⟩
    m_House_drop := ⟨f63, _, F63, b63, ⟨m63, i63, k63⟩⟩
    m_House_two := ⟨f64, _, F64, b64, ⟨m64, i64, k64⟩⟩
    d_told_of_row := ⟨f65, _, F65, b65, PySem.W.mg_of IK G g65⟩
    d_told_of_two := ⟨f66, _, F66, b66, PySem.W.mg_of IK G g66⟩
    d_answers := ⟨f67, _, F67, b67, PySem.W.mg_of IK G g67⟩
    mk_Step := ⟨mk_Step, m0, i0, kc_Step⟩
    mk_Tree := ⟨mk_Tree, m19, i19, kc_Tree⟩
    mk_Block := ⟨mk_Block, m40, i40, kc_Block⟩
    mk_House := ⟨mk_House, m47, i47, kc_House⟩
    c_HUNK := ⟨t_HUNK, PySem.W.mg_of IK G c_HUNK⟩
    c_SWAP := ⟨t_SWAP, PySem.W.mg_of IK G c_SWAP⟩
    c_ADDED := ⟨t_ADDED, PySem.W.mg_of IK G c_ADDED⟩
    c_REMOVED := ⟨t_REMOVED, PySem.W.mg_of IK G c_REMOVED⟩
    c_MOVED := ⟨t_MOVED, PySem.W.mg_of IK G c_MOVED⟩
    c_MOST_NAME := ⟨t_MOST_NAME, PySem.W.mg_of IK G c_MOST_NAME⟩
    c_MOST_TOKEN := ⟨t_MOST_TOKEN, PySem.W.mg_of IK G c_MOST_TOKEN⟩
    c_MOST_PLACE := ⟨t_MOST_PLACE, PySem.W.mg_of IK G c_MOST_PLACE⟩
    c_MOST_TOKENS := ⟨t_MOST_TOKENS, PySem.W.mg_of IK G c_MOST_TOKENS⟩
    c_MOST_FILES := ⟨t_MOST_FILES, PySem.W.mg_of IK G c_MOST_FILES⟩
    c_MOST_IN_FILE := ⟨t_MOST_IN_FILE, PySem.W.mg_of IK G c_MOST_IN_FILE⟩
    c_NO_FORM := ⟨t_NO_FORM, PySem.W.mg_of IK G c_NO_FORM⟩
    c_NO_ROW := ⟨t_NO_ROW, PySem.W.mg_of IK G c_NO_ROW⟩
    c_SAME_ROW := ⟨t_SAME_ROW, PySem.W.mg_of IK G c_SAME_ROW⟩
    c_DOESNT_FIT := ⟨t_DOESNT_FIT, PySem.W.mg_of IK G c_DOESNT_FIT⟩
    c_TOO_MANY := ⟨t_TOO_MANY, PySem.W.mg_of IK G c_TOO_MANY⟩
    c_CANT_BE := ⟨t_CANT_BE, PySem.W.mg_of IK G c_CANT_BE⟩
    c_NO_TREE := ⟨t_NO_TREE, PySem.W.mg_of IK G c_NO_TREE⟩
    c_ROWS_house := ⟨t_ROWS_house, PySem.W.mg_of IK G c_ROWS_house⟩
    c_MOST_STEPS := ⟨t_MOST_STEPS, PySem.W.mg_of IK G c_MOST_STEPS⟩
    c_MOST_PULLED := ⟨t_MOST_PULLED, PySem.W.mg_of IK G c_MOST_PULLED⟩
    c_NUMBERS := ⟨T_NUMBERS, PySem.W.mg_of IK G c_NUMBERS, fun H => .inr ⟨_, _, _, s_NUMBERS, rfl, rfl, valsI_sz v_NUMBERS (by decide), valsI_is v_NUMBERS⟩⟩
    c_ROWS_merging := ⟨T_ROWS_merging, PySem.W.mg_of IK G c_ROWS_merging, fun H => .inr ⟨_, _, _, s_ROWS_merging, rfl, rfl, valsI_sz v_ROWS_merging (by decide), valsI_is v_ROWS_merging⟩⟩
    b_len := PySem.W.mg_none_of IK G b_len
    b_list := PySem.W.mg_none_of IK G b_list
    b_tuple := PySem.W.mg_none_of IK G b_tuple
    b_reversed := PySem.W.mg_none_of IK G b_reversed
    b_range := PySem.W.mg_none_of IK G b_range
    b_sorted := PySem.W.mg_none_of IK G b_sorted
    b_dict := PySem.W.mg_none_of IK G b_dict
    b_set := PySem.W.mg_none_of IK G b_set
    b_enumerate := PySem.W.mg_none_of IK G b_enumerate
    b_max := PySem.W.mg_none_of IK G b_max }, rfl, rfl⟩
end Rw

/-! part RwFin -/
set_option Elab.async false
set_option linter.all false
set_option maxRecDepth 100000
namespace Rw
open PySem PySem.Spec PyProof.Rows L2
theorem answers_ok {P : Program} {w : World} {K : PySem.W.Frag} {mg : Str → Option Value} {fa : Addr} (hfa : mg "answers" = some (.ref fa)) (T : ∃ X : Txt K mg, ∃ (kv dc pm cd ct : Value) (an : Option Addr), X.d_answers.fd = PySem.W.fnOf "answers" "answers" (defArgs s_answers) (defBody s_answers) (defScope s_answers) .none kv dc pm an cd ct) :
    ∃ fd : FuncData, (∀ (s : Shared) (us : List Value), us.length = (["calls"] : List Str).length → BindsTo s fd ⟨us, []⟩ ((["calls"] : List Str).zip us)) ∧ ∀ base : Heap, K.In base → base.Ns mainGlobals mg → FnOk P w K mg base CX0 14 fa fd ["calls"] (spAns K) := by
  obtain ⟨X, kv, dc, pm, cd, ct, an, e⟩ := T
  have ef : fa = X.d_answers.f := by
    have := hfa.symm.trans X.d_answers.g
    cases this
    rfl
  subst ef
  refine ⟨X.d_answers.fd, fun s us hu => ?_, fun base _ _ => ok_answers X⟩
  rw [e]
  exact match us, hu with | [_], _ => .of_eq rfl
end Rw
open PySem PySem.W PyProof.Rows
set_option maxRecDepth 100000 in
set_option maxHeartbeats 0 in
theorem PySem.Challenge.cw_rowsmerged_s01_answers_holds : PySem.Challenge.rw_rowsmerged_s01_answers.Holds := by
  w_on; k_headS; (case hw => exact ⟨[.list [.int 2, .int 0]], by decide +kernel, by decide +kernel⟩)
  k_fillS
  refine L2.walk_specK (r := PySem.Challenge.rw_rowsmerged_s01_answers) (k := 14) (CX := L2.CX0) (ps := ["calls"]) (sp := Rw.spAns) (by decide +kernel) rfl rfl ⟨rfl, by decide, by decide⟩ (fun w h Y => PySem.W.kIn_of Y) ?F ?S (fun _ _ _ _ z => z)
  case F =>
    intro w mg fa h Y KX G hmg
    refine Rw.answers_ok hmg ?_
    refine' (fun z => Exists.elim z fun X hX => ⟨X, _, _, _, _, _, _, hX.2⟩) (Rw.txt_mk KX G ?g_Step ?g_Tree ?g_Block ?g_House ?m0 ?i0 ?l0 ?c0 ?k0 ?m1 ?i1 ?l1 ?c1 ?k1 ?m2 ?i2 ?l2 ?c2 ?k2 ?m3 ?i3 ?l3 ?c3 ?k3 ?m4 ?i4 ?l4 ?c4 ?k4 ?m5 ?i5 ?l5 ?c5 ?k5 ?m6 ?i6 ?l6 ?c6 ?k6 ?m7 ?i7 ?l7 ?c7 ?k7 ?g8 ?l8 ?c8 ?k8 ?g9 ?l9 ?c9 ?k9 ?g10 ?l10 ?c10 ?k10 ?g11 ?l11 ?c11 ?k11 ?g12 ?l12 ?c12 ?k12 ?g13 ?l13 ?c13 ?k13 ?g14 ?l14 ?c14 ?k14 ?g15 ?l15 ?c15 ?k15 ?g16 ?l16 ?c16 ?k16 ?g17 ?l17 ?c17 ?k17 ?g18 ?l18 ?c18 ?k18 ?m19 ?i19 ?l19 ?c19 ?k19 ?m20 ?i20 ?l20 ?c20 ?k20 ?m21 ?i21 ?l21 ?c21 ?k21 ?m22 ?i22 ?l22 ?c22 ?k22 ?m23 ?i23 ?l23 ?c23 ?k23 ?m24 ?i24 ?l24 ?c24 ?k24 ?m25 ?i25 ?l25 ?c25 ?k25 ?m26 ?i26 ?l26 ?c26 ?k26 ?m27 ?i27 ?l27 ?c27 ?k27 ?m28 ?i28 ?l28 ?c28 ?k28 ?g29 ?l29 ?c29 ?k29 ?g30 ?l30 ?c30 ?k30 ?g31 ?l31 ?c31 ?k31 ?g32 ?l32 ?c32 ?k32 ?g33 ?l33 ?c33 ?k33 ?g34 ?l34 ?c34 ?k34 ?g35 ?l35 ?c35 ?k35 ?g36 ?l36 ?c36 ?k36 ?g37 ?l37 ?c37 ?k37 ?g38 ?l38 ?c38 ?k38 ?g39 ?l39 ?c39 ?k39 ?m40 ?i40 ?l40 ?c40 ?k40 ?g41 ?l41 ?c41 ?k41 ?g42 ?l42 ?c42 ?k42 ?g43 ?l43 ?c43 ?k43 ?g44 ?l44 ?c44 ?k44 ?g45 ?l45 ?c45 ?k45 ?g46 ?l46 ?c46 ?k46 ?m47 ?i47 ?l47 ?c47 ?k47 ?m48 ?i48 ?l48 ?c48 ?k48 ?m49 ?i49 ?l49 ?c49 ?k49 ?m50 ?i50 ?l50 ?c50 ?k50 ?m51 ?i51 ?l51 ?c51 ?k51 ?m52 ?i52 ?l52 ?c52 ?k52 ?m53 ?i53 ?l53 ?c53 ?k53 ?m54 ?i54 ?l54 ?c54 ?k54 ?m55 ?i55 ?l55 ?c55 ?k55 ?m56 ?i56 ?l56 ?c56 ?k56 ?m57 ?i57 ?l57 ?c57 ?k57 ?m58 ?i58 ?l58 ?c58 ?k58 ?m59 ?i59 ?l59 ?c59 ?k59 ?m60 ?i60 ?l60 ?c60 ?k60 ?m61 ?i61 ?l61 ?c61 ?k61 ?m62 ?i62 ?l62 ?c62 ?k62 ?m63 ?i63 ?l63 ?c63 ?k63 ?m64 ?i64 ?l64 ?c64 ?k64 ?g65 ?l65 ?c65 ?k65 ?g66 ?l66 ?c66 ?k66 ?g67 ?l67 ?c67 ?k67 ?pg_Step ?hd_Step ?po_Step ?sa_Step ?mk_Step ?kc_Step ?na_Step_kind ?na_Step_name ?na_Step_place ?na_Step_old ?na_Step_new ?na_Step_goal ?pg_Tree ?hd_Tree ?po_Tree ?sa_Tree ?mk_Tree ?kc_Tree ?na_Tree_files ?pg_Block ?hd_Block ?po_Block ?sa_Block ?mk_Block ?kc_Block ?na_Block_among ?na_Block_row ?pg_House ?hd_House ?po_House ?sa_House ?mk_House ?kc_House ?na_House_base ?na_House_rows ?c_HUNK ?c_SWAP ?c_ADDED ?c_REMOVED ?c_MOVED ?c_MOST_NAME ?c_MOST_TOKEN ?c_MOST_PLACE ?c_MOST_TOKENS ?c_MOST_FILES ?c_MOST_IN_FILE ?c_NO_FORM ?c_NO_ROW ?c_SAME_ROW ?c_DOESNT_FIT ?c_TOO_MANY ?c_CANT_BE ?c_NO_TREE ?c_ROWS_house ?c_MOST_STEPS ?c_MOST_PULLED ?c_NUMBERS ?s_NUMBERS ?v_NUMBERS ?c_ROWS_merging ?s_ROWS_merging ?v_ROWS_merging ?b_len ?b_list ?b_tuple ?b_reversed ?b_range ?b_sorted ?b_dict ?b_set ?b_enumerate ?b_max)
    (case g_Step => k_is); (case g_Tree => k_is); (case g_Block => k_is); (case g_House => k_is); (case m0 => k_is); (case i0 => k_is)
    (case l0 => k_is); (case c0 => k_is); (case k0 => k_is); (case m1 => k_is); (case i1 => k_is); (case l1 => k_is)
    (case c1 => k_is); (case k1 => k_is); (case m2 => k_is); (case i2 => k_is); (case l2 => k_is); (case c2 => k_is)
    (case k2 => k_is); (case m3 => k_is); (case i3 => k_is); (case l3 => k_is); (case c3 => k_is); (case k3 => k_is)
    (case m4 => k_is); (case i4 => k_is); (case l4 => k_is); (case c4 => k_is); (case k4 => k_is); (case m5 => k_is)
    (case i5 => k_is); (case l5 => k_is); (case c5 => k_is); (case k5 => k_is); (case m6 => k_is); (case i6 => k_is)
    (case l6 => k_is); (case c6 => k_is); (case k6 => k_is); (case m7 => k_is); (case i7 => k_is); (case l7 => k_is)
    (case c7 => k_is); (case k7 => k_is); (case g8 => k_is); (case l8 => k_is); (case c8 => k_is); (case k8 => k_is)
    (case g9 => k_is); (case l9 => k_is); (case c9 => k_is); (case k9 => k_is); (case g10 => k_is); (case l10 => k_is)
    (case c10 => k_is); (case k10 => k_is); (case g11 => k_is); (case l11 => k_is); (case c11 => k_is); (case k11 => k_is)
    (case g12 => k_is); (case l12 => k_is); (case c12 => k_is); (case k12 => k_is); (case g13 => k_is); (case l13 => k_is)
    (case c13 => k_is); (case k13 => k_is); (case g14 => k_is); (case l14 => k_is); (case c14 => k_is); (case k14 => k_is)
    (case g15 => k_is); (case l15 => k_is); (case c15 => k_is); (case k15 => k_is); (case g16 => k_is); (case l16 => k_is)
    (case c16 => k_is); (case k16 => k_is); (case g17 => k_is); (case l17 => k_is); (case c17 => k_is); (case k17 => k_is)
    (case g18 => k_is); (case l18 => k_is); (case c18 => k_is); (case k18 => k_is); (case m19 => k_is); (case i19 => k_is)
    (case l19 => k_is); (case c19 => k_is); (case k19 => k_is); (case m20 => k_is); (case i20 => k_is); (case l20 => k_is)
    (case c20 => k_is); (case k20 => k_is); (case m21 => k_is); (case i21 => k_is); (case l21 => k_is); (case c21 => k_is)
    (case k21 => k_is); (case m22 => k_is); (case i22 => k_is); (case l22 => k_is); (case c22 => k_is); (case k22 => k_is)
    (case m23 => k_is); (case i23 => k_is); (case l23 => k_is); (case c23 => k_is); (case k23 => k_is); (case m24 => k_is)
    (case i24 => k_is); (case l24 => k_is); (case c24 => k_is); (case k24 => k_is); (case m25 => k_is); (case i25 => k_is)
    (case l25 => k_is); (case c25 => k_is); (case k25 => k_is); (case m26 => k_is); (case i26 => k_is); (case l26 => k_is)
    (case c26 => k_is); (case k26 => k_is); (case m27 => k_is); (case i27 => k_is); (case l27 => k_is); (case c27 => k_is)
    (case k27 => k_is); (case m28 => k_is); (case i28 => k_is); (case l28 => k_is); (case c28 => k_is); (case k28 => k_is)
    (case g29 => k_is); (case l29 => k_is); (case c29 => k_is); (case k29 => k_is); (case g30 => k_is); (case l30 => k_is)
    (case c30 => k_is); (case k30 => k_is); (case g31 => k_is); (case l31 => k_is); (case c31 => k_is); (case k31 => k_is)
    (case g32 => k_is); (case l32 => k_is); (case c32 => k_is); (case k32 => k_is); (case g33 => k_is); (case l33 => k_is)
    (case c33 => k_is); (case k33 => k_is); (case g34 => k_is); (case l34 => k_is); (case c34 => k_is); (case k34 => k_is)
    (case g35 => k_is); (case l35 => k_is); (case c35 => k_is); (case k35 => k_is); (case g36 => k_is); (case l36 => k_is)
    (case c36 => k_is); (case k36 => k_is); (case g37 => k_is); (case l37 => k_is); (case c37 => k_is); (case k37 => k_is)
    (case g38 => k_is); (case l38 => k_is); (case c38 => k_is); (case k38 => k_is); (case g39 => k_is); (case l39 => k_is)
    (case c39 => k_is); (case k39 => k_is); (case m40 => k_is); (case i40 => k_is); (case l40 => k_is); (case c40 => k_is)
    (case k40 => k_is); (case g41 => k_is); (case l41 => k_is); (case c41 => k_is); (case k41 => k_is); (case g42 => k_is)
    (case l42 => k_is); (case c42 => k_is); (case k42 => k_is); (case g43 => k_is); (case l43 => k_is); (case c43 => k_is)
    (case k43 => k_is); (case g44 => k_is); (case l44 => k_is); (case c44 => k_is); (case k44 => k_is); (case g45 => k_is)
    (case l45 => k_is); (case c45 => k_is); (case k45 => k_is); (case g46 => k_is); (case l46 => k_is); (case c46 => k_is)
    (case k46 => k_is); (case m47 => k_is); (case i47 => k_is); (case l47 => k_is); (case c47 => k_is); (case k47 => k_is)
    (case m48 => k_is); (case i48 => k_is); (case l48 => k_is); (case c48 => k_is); (case k48 => k_is); (case m49 => k_is)
    (case i49 => k_is); (case l49 => k_is); (case c49 => k_is); (case k49 => k_is); (case m50 => k_is); (case i50 => k_is)
    (case l50 => k_is); (case c50 => k_is); (case k50 => k_is); (case m51 => k_is); (case i51 => k_is); (case l51 => k_is)
    (case c51 => k_is); (case k51 => k_is); (case m52 => k_is); (case i52 => k_is); (case l52 => k_is); (case c52 => k_is)
    (case k52 => k_is); (case m53 => k_is); (case i53 => k_is); (case l53 => k_is); (case c53 => k_is); (case k53 => k_is)
    (case m54 => k_is); (case i54 => k_is); (case l54 => k_is); (case c54 => k_is); (case k54 => k_is); (case m55 => k_is)
    (case i55 => k_is); (case l55 => k_is); (case c55 => k_is); (case k55 => k_is); (case m56 => k_is); (case i56 => k_is)
    (case l56 => k_is); (case c56 => k_is); (case k56 => k_is); (case m57 => k_is); (case i57 => k_is); (case l57 => k_is)
    (case c57 => k_is); (case k57 => k_is); (case m58 => k_is); (case i58 => k_is); (case l58 => k_is); (case c58 => k_is)
    (case k58 => k_is); (case m59 => k_is); (case i59 => k_is); (case l59 => k_is); (case c59 => k_is); (case k59 => k_is)
    (case m60 => k_is); (case i60 => k_is); (case l60 => k_is); (case c60 => k_is); (case k60 => k_is); (case m61 => k_is)
    (case i61 => k_is); (case l61 => k_is); (case c61 => k_is); (case k61 => k_is); (case m62 => k_is); (case i62 => k_is)
    (case l62 => k_is); (case c62 => k_is); (case k62 => k_is); (case m63 => k_is); (case i63 => k_is); (case l63 => k_is)
    (case c63 => k_is); (case k63 => k_is); (case m64 => k_is); (case i64 => k_is); (case l64 => k_is); (case c64 => k_is)
    (case k64 => k_is); (case g65 => k_is); (case l65 => k_is); (case c65 => k_is); (case k65 => k_is); (case g66 => k_is)
    (case l66 => k_is); (case c66 => k_is); (case k66 => k_is); (case g67 => k_is); (case l67 => k_is); (case c67 => k_is)
    (case k67 => k_is); (case pg_Step => k_is); (case hd_Step => k_is); (case po_Step => k_is); (case sa_Step => k_is); (case mk_Step => k_is)
    (case kc_Step => k_is); (case na_Step_kind => k_is); (case na_Step_name => k_is); (case na_Step_place => k_is); (case na_Step_old => k_is); (case na_Step_new => k_is)
    (case na_Step_goal => k_is); (case pg_Tree => k_is); (case hd_Tree => k_is); (case po_Tree => k_is); (case sa_Tree => k_is); (case mk_Tree => k_is)
    (case kc_Tree => k_is); (case na_Tree_files => k_is); (case pg_Block => k_is); (case hd_Block => k_is); (case po_Block => k_is); (case sa_Block => k_is)
    (case mk_Block => k_is); (case kc_Block => k_is); (case na_Block_among => k_is); (case na_Block_row => k_is); (case pg_House => k_is); (case hd_House => k_is)
    (case po_House => k_is); (case sa_House => k_is); (case mk_House => k_is); (case kc_House => k_is); (case na_House_base => k_is); (case na_House_rows => k_is)
    (case c_HUNK => k_is); (case c_SWAP => k_is); (case c_ADDED => k_is); (case c_REMOVED => k_is); (case c_MOVED => k_is); (case c_MOST_NAME => k_is)
    (case c_MOST_TOKEN => k_is); (case c_MOST_PLACE => k_is); (case c_MOST_TOKENS => k_is); (case c_MOST_FILES => k_is); (case c_MOST_IN_FILE => k_is); (case c_NO_FORM => k_is)
    (case c_NO_ROW => k_is); (case c_SAME_ROW => k_is); (case c_DOESNT_FIT => k_is); (case c_TOO_MANY => k_is); (case c_CANT_BE => k_is); (case c_NO_TREE => k_is)
    (case c_ROWS_house => k_is); (case c_MOST_STEPS => k_is); (case c_MOST_PULLED => k_is); (case c_NUMBERS => k_is); (case s_NUMBERS => k_is); (case v_NUMBERS => first | rfl | k_is)
    (case c_ROWS_merging => k_is); (case s_ROWS_merging => k_is); (case v_ROWS_merging => first | rfl | k_is); (case b_len => k_is); (case b_list => k_is); (case b_tuple => k_is)
    (case b_reversed => k_is); (case b_range => k_is); (case b_sorted => k_is); (case b_dict => k_is); (case b_set => k_is); (case b_enumerate => k_is)
    (case b_max => k_is)
  case S =>
    intro K H xs a hO hwi hask hx
    cases hx with
    | cons h1 h2 =>
      cases h2
      cases h1 with
      | lst hs ha =>
        have e := L2.ints_dw a.1 _ ha
        subst e
        have q : ((Codec.inLen 0 6200 a.1 && a.1.all (Codec.inInt (-1000000000000000000) 1000000000000000000)) && true) = true := hwi
        rw [Bool.and_eq_true, Bool.and_eq_true] at q
        exact ⟨_, a.1, rfl, hs, (Codec.inNat_iff.mp q.1.1).2, hask, fun H' p hp => .lst (L2.SqL.of hp) (L2.dw_ints _)⟩
#print axioms PySem.Challenge.cw_rowsmerged_s01_answers_holds
