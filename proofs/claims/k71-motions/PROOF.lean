import PyProof.Rows.All
import Wide.All
import OpenK.AllK
import Wide.FinOn
import HandS.ForMost
import HandS.ForExc
import HandS.Conv
import HandS.TupAny
import HandS.Sort
import HandS.SortRule
import HandS.SortInts
import HandS.Deep
import HandS.Style
import HandS.IsInst
import HandS.Zip
import HandS.TupSets
import KE.DataMinMax
import KE.KIndexOf
import HandS.SetFor
import HandS.SortKw
import HandS.Strs
import HandS.WordsExc
import HandS.Small
import HandS.TryOnly
import HandS.ExcIs
import HandS.Codes
import HandS.Defaults
import KE.KStateDown
import HandS.More
import HandS.Head0
import HandS.Head1
import HandS.Head2
import HandS.HeadEnd
import HandS.HeadHook1
import HandS.HeadHook2
import PySem.Challenge.RW_roofweb_k71_motions
set_option Elab.async false
set_option linter.all false
set_option maxRecDepth 100000
set_option maxHeartbeats 4000000
/-! GeoA: rings without bays, in plain rationals. -/
namespace Geo
abbrev Pt := Rat × Rat
/-- twice the area of the triangle -/
def ori (p q r : Pt) : Rat := (q.1 - p.1) * (r.2 - p.2) - (q.2 - p.2) * (r.1 - p.1)
theorem ori_rot (p q r : Pt) : ori p q r = ori q r p := by unfold ori; grind
theorem ori_rot2 (p q r : Pt) : ori p q r = ori r p q := by unfold ori; grind
theorem ori_swap (p q r : Pt) : ori q p r = - ori p q r := by unfold ori; grind
theorem ori_self (p q : Pt) : ori p q p = 0 ∧ ori p q q = 0 ∧ ori p p q = 0 := by unfold ori; grind
/-- four vectors from a point -/
theorem ori_gp (o a b c d : Pt) : ori o a b * ori o c d + ori o b c * ori o a d = ori o a c * ori o b d := by unfold ori; grind
/-- by the three parts of a triangle -/
theorem ori_bary (u v a b c q : Pt) : ori u v q * ori a b c = ori u v a * ori b c q + ori u v b * ori c a q + ori u v c * ori a b q := by unfold ori; grind
theorem pos_of_mul {a b : Rat} (h : 0 < a * b) (hb : 0 < b) : 0 < a := by
  by_cases h1 : 0 < a
  · exact h1
  · have : 0 ≤ (-a) * b := Rat.mul_nonneg (by grind) (by grind)
    grind
/-- any three, in their order, turn to the left -/
def Tri (P : Nat → Pt) : List Nat → Prop
  | [] => True
  | x :: l => l.Pairwise (fun a b => 0 < ori (P x) (P a) (P b)) ∧ Tri P l
theorem Tri.sub {P : Nat → Pt} {l m : List Nat} (h : Tri P m) (s : l.Sublist m) : Tri P l := by
  induction s with
  | slnil => trivial
  | cons a s ih => exact ih h.2
  | cons_cons a s ih => exact ⟨h.1.sublist s, ih h.2⟩
theorem Tri.snoc {P : Nat → Pt} {x : Nat} : ∀ {l : List Nat}, Tri P l → l.Pairwise (fun a b => 0 < ori (P x) (P a) (P b)) → Tri P (l ++ [x])
  | [], _, _ => ⟨List.Pairwise.nil, trivial⟩
  | y :: l, h, hx => by
    have h2 := List.pairwise_cons.mp hx
    refine ⟨?_, Tri.snoc h.2 h2.2⟩
    show List.Pairwise _ (l ++ [x])
    rw [List.pairwise_append]
    refine ⟨h.1, List.pairwise_singleton _ _, fun a ha b hb => ?_⟩
    rw [List.mem_singleton.mp hb, ← ori_rot]
    exact h2.1 a ha
theorem Tri.rot1 {P : Nat → Pt} {x : Nat} {l : List Nat} (h : Tri P (x :: l)) : Tri P (l ++ [x]) := h.2.snoc h.1
theorem Tri.rot {P : Nat → Pt} : ∀ {a b : List Nat}, Tri P (a ++ b) → Tri P (b ++ a)
  | [], b, h => by simpa using h
  | x :: a, b, h => by
    have h1 : Tri P (a ++ (b ++ [x])) := by rw [← List.append_assoc]; exact h.rot1
    have := Tri.rot (a := a) h1
    rw [List.append_assoc] at this
    exact this
theorem Tri.map {P Q : Nat → Pt} {f : Nat → Nat} : ∀ {l : List Nat}, Tri P l → (∀ x ∈ l, Q (f x) = P x) → Tri Q (l.map f)
  | [], _, _ => trivial
  | x :: l, h, hf => by
    refine ⟨?_, Tri.map h.2 fun y hy => hf y (List.mem_cons_of_mem _ hy)⟩
    rw [List.pairwise_map]
    refine h.1.imp_of_mem fun {a b} ha hb hab => ?_
    rw [hf x List.mem_cons_self, hf a (List.mem_cons_of_mem _ ha), hf b (List.mem_cons_of_mem _ hb)]
    exact hab
/-! ### the steps of a ring -/
/-- from each number's forerunner to it -/
def stepsFrom : Nat → List Nat → List (Nat × Nat)
  | _, [] => []
  | p, x :: l => (p, x) :: stepsFrom x l
def steps (l : List Nat) : List (Nat × Nat) := stepsFrom (l.getLastD 0) l
theorem stepsFrom_append : ∀ (p : Nat) (a b : List Nat), stepsFrom p (a ++ b) = stepsFrom p a ++ stepsFrom (a.getLastD p) b
  | p, [], b => rfl
  | p, x :: a, b => by
    show (p, x) :: stepsFrom x (a ++ b) = _
    rw [stepsFrom_append x a b]
    show (p, x) :: (stepsFrom x a ++ stepsFrom (a.getLastD x) b) = (p, x) :: (stepsFrom x a ++ stepsFrom ((x :: a).getLastD p) b)
    rw [List.getLastD_cons]
theorem steps_cons (x : Nat) (l : List Nat) : steps (x :: l) = (l.getLastD x, x) :: stepsFrom x l := by
  unfold steps
  rw [List.getLastD_cons]
  rfl
/-- turned on -/
theorem steps_rot (a b : List Nat) : (steps (b ++ a)).Perm (steps (a ++ b)) := by
  cases a with
  | nil => simp
  | cons x a => cases b with
    | nil => simp
    | cons y b =>
      unfold steps
      rw [stepsFrom_append, stepsFrom_append]
      have e0 : ∀ (l m : List Nat), m ≠ [] → (l ++ m).getLastD 0 = m.getLastD 0 := by
        intro l m hm
        rw [List.getLastD_eq_getLast?, List.getLastD_eq_getLast?, List.getLast?_append, List.getLast?_eq_some_getLast hm]; rfl
      have e1 : ((y :: b) ++ (x :: a)).getLastD 0 = (x :: a).getLastD 0 := e0 _ _ (by simp)
      have e2 : ((x :: a) ++ (y :: b)).getLastD 0 = (y :: b).getLastD 0 := e0 _ _ (by simp)
      rw [e1, e2]
      have e3 : ∀ (p q : Nat) (z : Nat) (l : List Nat), (z :: l).getLastD p = (z :: l).getLastD q := by intro p q z l; rw [List.getLastD_cons, List.getLastD_cons]
      rw [e3 ((x :: a).getLastD 0) 0, e3 ((y :: b).getLastD 0) 0]
      exact List.perm_append_comm
theorem stepsFrom_mem {p u v : Nat} : ∀ {l : List Nat}, (u, v) ∈ stepsFrom p l → (u = p ∨ u ∈ l.dropLast) ∧ v ∈ l
  | [], h => nomatch h
  | x :: l, h => by
    rcases List.mem_cons.mp h with h | h
    · cases h; exact ⟨.inl rfl, List.mem_cons_self⟩
    · obtain ⟨h1, h2⟩ := stepsFrom_mem (l := l) h
      refine ⟨.inr ?_, List.mem_cons_of_mem _ h2⟩
      cases l with
      | nil => cases h2
      | cons y l =>
        rw [List.dropLast_cons_cons]
        rcases h1 with rfl | h1
        · exact List.mem_cons_self
        · exact List.mem_cons_of_mem _ h1
theorem getLastD_mem {l : List Nat} (h : l ≠ []) (d : Nat) : l.getLastD d ∈ l := by
  rw [List.getLastD_eq_getLast?, List.getLast?_eq_some_getLast h]; exact List.getLast_mem h
theorem steps_mem {u v : Nat} {l : List Nat} (h : (u, v) ∈ steps l) : u ∈ l ∧ v ∈ l := by
  obtain ⟨h1, h2⟩ := stepsFrom_mem h
  refine ⟨?_, h2⟩
  rcases h1 with rfl | h1
  · exact getLastD_mem (by intro z; subst z; cases h2) _
  · exact List.dropLast_subset l h1
theorem stepsFrom_fst : ∀ (p : Nat) (l : List Nat), (stepsFrom p l).map (·.2) = l
  | _, [] => rfl
  | p, x :: l => by show x :: _ = _; rw [stepsFrom_fst]
theorem steps_snd (l : List Nat) : (steps l).map (·.2) = l := stepsFrom_fst _ l
theorem stepsFrom_fst' : ∀ (p : Nat) (l : List Nat), (stepsFrom p l).map (·.1) = (p :: l).dropLast
  | _, [] => rfl
  | p, x :: l => by
    show p :: _ = _
    rw [stepsFrom_fst' x l]; rfl
theorem steps_fst (l : List Nat) : ((steps l).map (·.1)).Perm l := by
  cases l with
  | nil => exact .refl _
  | cons x l =>
    unfold steps
    rw [stepsFrom_fst']
    have : ∀ (q : Nat) (l : List Nat), (q :: l).dropLast ++ [(q :: l).getLastD 0] = q :: l := by
      intro q l
      rw [List.getLastD_eq_getLast?, List.getLast?_eq_some_getLast (List.cons_ne_nil q l)]
      exact List.dropLast_concat_getLast _
    have e : ((x :: l).getLastD 0 :: (x :: l)).dropLast = (x :: l).getLastD 0 :: (x :: l).dropLast := rfl
    rw [e]
    refine (List.perm_append_comm (l₁ := [(x :: l).getLastD 0]) (l₂ := (x :: l).dropLast)).trans ?_
    rw [this]
theorem nodup_of_map {α β : Type} {f : α → β} {l : List α} (h : (l.map f).Nodup) : l.Nodup := (List.pairwise_map.mp h).imp fun hab e => hab (congrArg f e)
theorem inj_of_nodup_map {α β : Type} {f : α → β} : ∀ {l : List α}, (l.map f).Nodup → ∀ {a b : α}, a ∈ l → b ∈ l → f a = f b → a = b
  | [], _, _, _, ha, _, _ => nomatch ha
  | x :: l, h, a, b, ha, hb, e => by
    have h2 := List.nodup_cons.mp h
    rcases List.mem_cons.mp ha with ea | ha' <;> rcases List.mem_cons.mp hb with eb | hb'
    · rw [ea, eb]
    · exact absurd (List.mem_map.mpr ⟨b, hb', by rw [← e, ea]⟩) h2.1
    · exact absurd (List.mem_map.mpr ⟨a, ha', by rw [e, eb]⟩) h2.1
    · exact inj_of_nodup_map h2.2 ha' hb' e
theorem steps_nodup {l : List Nat} (h : l.Nodup) : (steps l).Nodup := by
  have : ((steps l).map (·.2)).Nodup := by rw [steps_snd]; exact h
  exact nodup_of_map this
theorem steps_inj1 {l : List Nat} (h : l.Nodup) {u v w : Nat} (h1 : (u, w) ∈ steps l) (h2 : (v, w) ∈ steps l) : u = v := by
  have hn : ((steps l).map (·.2)).Nodup := by rw [steps_snd]; exact h
  have := inj_of_nodup_map hn h1 h2 rfl
  exact congrArg Prod.fst this
theorem steps_inj2 {l : List Nat} (h : l.Nodup) {u v w : Nat} (h1 : (w, u) ∈ steps l) (h2 : (w, v) ∈ steps l) : u = v := by
  have hn : ((steps l).map (·.1)).Nodup := (steps_fst l).nodup_iff.mpr h
  have := inj_of_nodup_map hn h1 h2 rfl
  exact congrArg Prod.snd this
end Geo

/-! GeoB: rings without bays; what lies within one. -/
namespace Geo
/-- a ring without bays -/
structure Bay (P : Nat → Pt) (l : List Nat) : Prop where
  len : 3 ≤ l.length
  nd : l.Nodup
  left : ∀ u v, (u, v) ∈ steps l → ∀ n ∈ l, n ≠ u → n ≠ v → 0 < ori (P u) (P v) (P n)
theorem stepsFrom_split {p u v : Nat} : ∀ {l : List Nat}, (u, v) ∈ stepsFrom p l → (u = p ∧ ∃ b, l = v :: b) ∨ ∃ a b, l = a ++ u :: v :: b
  | [], h => nomatch h
  | x :: l, h => by
    rcases List.mem_cons.mp h with h | h
    · cases h; exact .inl ⟨rfl, l, rfl⟩
    · rcases stepsFrom_split (l := l) h with ⟨rfl, b, rfl⟩ | ⟨a, b, rfl⟩
      · exact .inr ⟨[], b, rfl⟩
      · exact .inr ⟨x :: a, b, rfl⟩
/-- a step stands at the head of the ring turned on -/
theorem steps_split {u v : Nat} {l : List Nat} (hl : 2 ≤ l.length) (h : (u, v) ∈ steps l) : ∃ a b r, l = a ++ b ∧ b ++ a = u :: v :: r := by
  rcases stepsFrom_split h with ⟨rfl, b, rfl⟩ | ⟨a, b, rfl⟩
  · cases b with
    | nil => simp at hl
    | cons y b =>
      refine ⟨(v :: y :: b).dropLast, [(v :: y :: b).getLast (by simp)], (y :: b).dropLast, (List.dropLast_concat_getLast _).symm, ?_⟩
      rw [List.getLastD_eq_getLast?, List.getLast?_eq_some_getLast (by simp)]
      rfl
  · exact ⟨a, u :: v :: b, b ++ a, rfl, rfl⟩
theorem steps_head {u v : Nat} {r : List Nat} : (u, v) ∈ steps (u :: v :: r) := by
  rw [steps_cons]; exact List.mem_cons_of_mem _ List.mem_cons_self
theorem steps_rot_mem {a b : List Nat} {s : Nat × Nat} : s ∈ steps (b ++ a) ↔ s ∈ steps (a ++ b) := (steps_rot a b).mem_iff
theorem Tri.distinct {P : Nat → Pt} {x y : Nat} {l : List Nat} (h : Tri P (x :: y :: l)) (hl : l ≠ []) : x ≠ y := by
  intro e
  subst e
  obtain ⟨z, l, rfl⟩ := List.exists_cons_of_ne_nil hl
  have := (List.pairwise_cons.mp h.1).1 z List.mem_cons_self
  have := (ori_self (P x) (P z)).2.2
  grind
theorem Tri.nodup {P : Nat → Pt} {l : List Nat} (h : Tri P l) (hl : 3 ≤ l.length) : l.Nodup := by
  match l, hl with
  | x :: y :: z :: l, _ =>
    have tri3 : ∀ {a b c : Nat}, 0 < ori (P a) (P b) (P c) → a ≠ b ∧ b ≠ c ∧ a ≠ c := by
      intro a b c q
      refine ⟨fun e => ?_, fun e => ?_, fun e => ?_⟩
      · subst e; have := (ori_self (P a) (P c)).2.2; grind
      · subst e; have := (ori_self (P a) (P b)).2.1; grind
      · subst e; have := (ori_self (P a) (P b)).1; grind
    have h1 := List.pairwise_cons.mp h.1
    have hy := h1.1
    refine List.nodup_cons.mpr ⟨fun m => ?_, ?_⟩
    · rcases List.mem_cons.mp m with e | m
      · subst e; exact (tri3 (hy z List.mem_cons_self)).1 rfl
      · exact (tri3 (hy x m)).2.2 rfl
    · exact h.1.imp fun q => (tri3 q).2.1
theorem Bay.of_tri {P : Nat → Pt} {l : List Nat} (h : Tri P l) (hl : 3 ≤ l.length) : Bay P l := by
  refine ⟨hl, h.nodup hl, fun u v hs n hn h1 h2 => ?_⟩
  obtain ⟨a, b, r, rfl, e⟩ := steps_split (by omega) hs
  have ht := h.rot
  rw [e] at ht
  have hm : n ∈ u :: v :: r := by rw [← e]; simp at hn ⊢; exact hn.symm
  simp only [List.mem_cons, h1, h2, false_or] at hm
  exact (List.pairwise_cons.mp ht.1).1 n hm
theorem fan_aux {P : Nat → Pt} {x y : Nat} : ∀ (r : List Nat) (a : Nat), (∀ n ∈ a :: r, 0 < ori (P x) (P y) (P n)) → (∀ s ∈ stepsFrom a r, 0 < ori (P x) (P s.1) (P s.2)) → List.Pairwise (fun a b => 0 < ori (P x) (P a) (P b)) (a :: r)
  | [], a, _, _ => List.pairwise_singleton _ _
  | b :: r, a, h1, h2 => by
    have ih := fan_aux r b (fun n hn => h1 n (List.mem_cons_of_mem _ hn)) fun s hs => h2 s (List.mem_cons_of_mem _ hs)
    have hab := h2 (a, b) List.mem_cons_self
    refine List.pairwise_cons.mpr ⟨fun n hn => ?_, ih⟩
    rcases List.mem_cons.mp hn with rfl | hn
    · exact hab
    · have hbn := (List.pairwise_cons.mp ih).1 n hn
      have g := ori_gp (P x) (P y) (P a) (P b) (P n)
      have p1 := Rat.mul_pos (h1 a List.mem_cons_self) hbn
      have p2 := Rat.mul_pos hab (h1 n (by simp [hn]))
      have hb := h1 b (by simp)
      refine pos_of_mul (b := ori (P x) (P y) (P b)) ?_ hb
      grind
theorem Bay.fan {P : Nat → Pt} {x : Nat} {r : List Nat} (h : Bay P (x :: r)) : List.Pairwise (fun a b => 0 < ori (P x) (P a) (P b)) r := by
  cases r with
  | nil => exact List.Pairwise.nil
  | cons y r =>
    have nd := List.nodup_cons.mp h.nd
    have nd2 := List.nodup_cons.mp nd.2
    have hy : ∀ n ∈ r, 0 < ori (P x) (P y) (P n) := fun n hn => h.left x y steps_head n (by simp [hn]) (fun e => nd.1 (by simp [← e, hn])) (fun e => nd2.1 (by rw [← e]; exact hn))
    refine List.pairwise_cons.mpr ⟨hy, ?_⟩
    cases r with
    | nil => exact List.Pairwise.nil
    | cons a r =>
      refine fan_aux r a hy fun s hs => ?_
      have hs' : (s.1, s.2) ∈ steps (x :: y :: a :: r) := by
        rw [steps_cons]
        exact List.mem_cons_of_mem _ (List.mem_cons_of_mem _ (List.mem_cons_of_mem _ hs))
      obtain ⟨m1, m2⟩ := stepsFrom_mem (show (s.1, s.2) ∈ stepsFrom a r from hs)
      have hm1 : s.1 ∈ a :: r := by
        rcases m1 with e | m1
        · rw [e]; exact List.mem_cons_self
        · exact List.mem_cons_of_mem _ (List.dropLast_subset _ m1)
      rw [ori_rot]
      refine h.left _ _ hs' x List.mem_cons_self (fun e => nd.1 ?_) (fun e => nd.1 ?_)
      · rw [e]; exact List.mem_cons_of_mem _ hm1
      · rw [e]; exact List.mem_cons_of_mem _ (List.mem_cons_of_mem _ m2)
theorem Bay.rot {P : Nat → Pt} {a b : List Nat} (h : Bay P (a ++ b)) : Bay P (b ++ a) := by
  refine ⟨?_, (List.perm_append_comm.nodup_iff).mp h.nd, fun u v hs n hn => h.left u v (steps_rot_mem.mp hs) n ?_⟩
  · have := h.len; simp at this ⊢; omega
  · simp at hn ⊢; exact hn.symm
theorem tri_of : ∀ {P : Nat → Pt} {l : List Nat}, (∀ a x b, l = a ++ x :: b → List.Pairwise (fun y z => 0 < ori (P x) (P y) (P z)) b) → Tri P l
  | P, [], _ => trivial
  | P, x :: l, h => ⟨h [] x l rfl, tri_of fun a y b e => h (x :: a) y b (by rw [e]; rfl)⟩
theorem Bay.tri {P : Nat → Pt} {l : List Nat} (h : Bay P l) : Tri P l := tri_of fun a x b e => by
  subst e
  have := (h.rot (a := a) (b := x :: b)).fan
  exact this.sublist (List.sublist_append_left b a)
/-- within a ring -/
def Inn (P : Nat → Pt) (l : List Nat) (q : Pt) : Prop := ∀ u v, (u, v) ∈ steps l → 0 < ori (P u) (P v) q
theorem Inn.rot {P : Nat → Pt} {a b : List Nat} {q : Pt} (h : Inn P (a ++ b) q) : Inn P (b ++ a) q := fun u v hs => h u v (steps_rot_mem.mp hs)
theorem fan_find {P : Nat → Pt} {x : Nat} {q : Pt} : ∀ (r : List Nat) (y : Nat), 0 < ori (P x) (P y) q → 0 < ori (P (r.getLastD y)) (P x) q → ∃ a b, (a, b) ∈ stepsFrom y r ∧ 0 < ori (P x) (P a) q ∧ 0 ≤ ori (P b) (P x) q
  | [], y, h1, h2 => by
    have h2 : 0 < ori (P y) (P x) q := h2
    rw [ori_swap] at h2; grind
  | b :: r, y, h1, h2 => by
    by_cases hb : 0 ≤ ori (P b) (P x) q
    · exact ⟨y, b, List.mem_cons_self, h1, hb⟩
    · have h3 : 0 < ori (P x) (P b) q := by rw [ori_swap]; grind
      rw [List.getLastD_cons] at h2
      obtain ⟨a, c, m, z⟩ := fan_find r b h3 h2
      exact ⟨a, c, List.mem_cons_of_mem _ m, z⟩
/-- what is not below nought at the corners, and above nought at one, is above nought within -/
theorem int_pos {P : Nat → Pt} {l : List Nat} {s t q : Pt} (h : Bay P l) (h0 : ∀ x ∈ l, 0 ≤ ori s t (P x)) (h1 : ∃ x ∈ l, 0 < ori s t (P x)) (hq : Inn P l q) : 0 < ori s t q := by
  obtain ⟨x, hx, hp⟩ := h1
  obtain ⟨a, b, rfl⟩ := List.append_of_mem hx
  have h' := h.rot (a := a) (b := x :: b)
  have hq' := hq.rot (a := a) (b := x :: b)
  have h0' : ∀ z ∈ x :: b ++ a, 0 ≤ ori s t (P z) := fun z hz => h0 z (by simp at hz ⊢; rcases hz with e | e | e <;> simp [e])
  revert h' hq' h0'
  rw [List.cons_append]
  generalize b ++ a = r
  intro h' hq' h0'
  cases r with
  | nil => have := h'.len; simp at this
  | cons y r =>
    have e1 := hq' x y steps_head
    have e2 : 0 < ori (P (r.getLastD y)) (P x) q := hq' _ _ (by rw [steps_cons, List.getLastD_cons]; exact List.mem_cons_self)
    obtain ⟨c, d, m, k1, k2⟩ := fan_find r y e1 e2
    have hs : (c, d) ∈ steps (x :: y :: r) := by rw [steps_cons]; exact List.mem_cons_of_mem _ (List.mem_cons_of_mem _ m)
    have hcd := hq' c d hs
    obtain ⟨m1, m2⟩ := stepsFrom_mem m
    have hc : c ∈ y :: r := by
      rcases m1 with e | m1
      · rw [e]; exact List.mem_cons_self
      · exact List.mem_cons_of_mem _ (List.dropLast_subset _ m1)
    have nd := List.nodup_cons.mp h'.nd
    have hD : 0 < ori (P x) (P c) (P d) := by
      rw [ori_rot]
      refine h'.left c d hs x List.mem_cons_self (fun e => nd.1 (by rw [e]; exact hc)) (fun e => nd.1 (by rw [e]; exact List.mem_cons_of_mem _ m2))
    have g := ori_bary s t (P x) (P c) (P d) q
    refine pos_of_mul (b := ori (P x) (P c) (P d)) ?_ hD
    have p1 := Rat.mul_pos hp hcd
    have p2 := Rat.mul_nonneg (h0' c (List.mem_cons_of_mem _ hc)) k2
    have p3 := Rat.mul_nonneg (h0' d (List.mem_cons_of_mem _ (List.mem_cons_of_mem _ m2))) (Rat.le_of_lt k1)
    grind
end Geo

/-! GeoC: faces poked, cut, put together. -/
namespace Geo
/-- nothing lies within both -/
def Dis (P : Nat → Pt) (f g : List Nat) : Prop := ∀ q, Inn P f q → Inn P g q → False
theorem Dis.symm {P : Nat → Pt} {f g : List Nat} (h : Dis P f g) : Dis P g f := fun q a b => h q b a
theorem Bay.le {P : Nat → Pt} {l : List Nat} (h : Bay P l) {u v n : Nat} (hs : (u, v) ∈ steps l) (hn : n ∈ l) : 0 ≤ ori (P u) (P v) (P n) := by
  by_cases h1 : n = u
  · rw [h1, (ori_self _ _).1]; exact Rat.le_refl
  · by_cases h2 : n = v
    · rw [h2, (ori_self _ _).2.1]; exact Rat.le_refl
    · exact Rat.le_of_lt (h.left u v hs n hn h1 h2)
/-- a step has a third corner -/
theorem Bay.third {P : Nat → Pt} {l : List Nat} (h : Bay P l) {u v : Nat} (hs : (u, v) ∈ steps l) : ∃ n ∈ l, 0 < ori (P u) (P v) (P n) := by
  obtain ⟨a, b, r, rfl, e⟩ := steps_split (by have := h.len; omega) hs
  cases r with
  | nil =>
    have h1 := h.len
    have h2 := congrArg List.length e
    simp at h1 h2; omega
  | cons z r =>
    have hb := h.rot (a := a) (b := b)
    rw [e] at hb
    have nd := List.nodup_cons.mp hb.nd
    have nd2 := List.nodup_cons.mp nd.2
    have hz : z ∈ b ++ a := by rw [e]; simp
    exact ⟨z, by simp at hz ⊢; exact hz.symm, hb.left u v steps_head z (by simp) (fun q => nd.1 (by simp [← q])) (fun q => nd2.1 (by simp [← q]))⟩
/-- of two steps not both ends lie on the other's line -/
theorem Bay.two {P : Nat → Pt} {l : List Nat} (h : Bay P l) {a b u v : Nat} (hs : (a, b) ∈ steps l) (ht : (u, v) ∈ steps l) (hne : (a, b) ≠ (u, v)) : 0 < ori (P u) (P v) (P a) ∨ 0 < ori (P u) (P v) (P b) := by
  have ma := steps_mem hs
  have mt := steps_mem ht
  by_cases h1 : a = u
  · subst h1
    exact absurd (by rw [steps_inj2 h.nd hs ht]) hne
  · by_cases h2 : a = v
    · right
      subst h2
      by_cases h3 : b = u
      · -- (a, u) and (u, a): only of two corners
        subst h3
        obtain ⟨n, hn, p1⟩ := h.third hs
        have p2 := h.le ht hn
        rw [ori_swap] at p2; grind
      · refine h.left u a ht b ma.2 h3 fun e => ?_
        subst e
        exact absurd (steps_inj1 h.nd hs ht) h1
    · exact .inl (h.left u v ht a ma.1 h1 h2)
/-- a triangle at a step and a spot within -/
def tri (P : Nat → Pt) (a b : Nat) (p q : Pt) : Prop := 0 < ori (P a) (P b) q ∧ 0 < ori (P b) p q ∧ 0 < ori p (P a) q
theorem tri_int {P : Nat → Pt} {a b n : Nat} {q : Pt} : Inn P [a, b, n] q ↔ tri P a b (P n) q := by
  unfold Inn tri steps
  constructor
  · intro h
    exact ⟨h a b (by simp [stepsFrom]), h b n (by simp [stepsFrom]), h n a (by simp [stepsFrom])⟩
  · rintro ⟨h1, h2, h3⟩ u v hs
    simp [stepsFrom] at hs
    rcases hs with ⟨rfl, rfl⟩ | ⟨rfl, rfl⟩ | ⟨rfl, rfl⟩ <;> assumption
theorem poke_sub {P : Nat → Pt} {l : List Nat} {a b : Nat} {p q : Pt} (h : Bay P l) (hp : Inn P l p) (hs : (a, b) ∈ steps l) (hq : tri P a b p q) : Inn P l q := fun u v ht => by
  have hD := hp a b hs
  have g := ori_bary (P u) (P v) (P a) (P b) p q
  have ms := steps_mem hs
  have p1 := Rat.mul_nonneg (h.le ht ms.1) (Rat.le_of_lt hq.2.1)
  have p2 := Rat.mul_nonneg (h.le ht ms.2) (Rat.le_of_lt hq.2.2)
  have p3 := Rat.mul_pos (hp u v ht) hq.1
  refine pos_of_mul (b := ori (P a) (P b) p) ?_ hD
  grind
theorem poke_less {P : Nat → Pt} {l : List Nat} {a b u v : Nat} {p q : Pt} (h : Bay P l) (hs : (a, b) ∈ steps l) (ht : (u, v) ∈ steps l) (hne : (a, b) ≠ (u, v)) (hq : tri P a b p q) : ori (P u) (P v) p * ori (P a) (P b) q < ori (P u) (P v) q * ori (P a) (P b) p := by
  have g := ori_bary (P u) (P v) (P a) (P b) p q
  have ms := steps_mem hs
  have p1 := Rat.mul_nonneg (h.le ht ms.1) (Rat.le_of_lt hq.2.1)
  have p2 := Rat.mul_nonneg (h.le ht ms.2) (Rat.le_of_lt hq.2.2)
  rcases h.two hs ht hne with z | z
  · have := Rat.mul_pos z hq.2.1; grind
  · have := Rat.mul_pos z hq.2.2; grind
theorem poke_dis {P : Nat → Pt} {l : List Nat} {a b u v : Nat} {p q : Pt} (h : Bay P l) (hs : (a, b) ∈ steps l) (ht : (u, v) ∈ steps l) (hne : (a, b) ≠ (u, v)) (h1 : tri P a b p q) (h2 : tri P u v p q) : False := by
  have e1 := poke_less h hs ht hne h1
  have e2 := poke_less h ht hs (fun e => hne e.symm) h2
  grind
theorem Tri.three {P : Nat → Pt} {a b c : Nat} : Tri P [a, b, c] ↔ 0 < ori (P a) (P b) (P c) := by
  unfold Tri; simp [Tri]
/-! ### a cut -/
/-- a ring cut from its first corner to another one -/
theorem cut_tri {P : Nat → Pt} {x y : Nat} {a b : List Nat} (h : Tri P (x :: (a ++ y :: b))) : Tri P (x :: a ++ [y]) ∧ Tri P (y :: b ++ [x]) := by
  refine ⟨h.sub ?_, ?_⟩
  · show (x :: (a ++ [y])).Sublist _
    refine List.Sublist.cons_cons _ (List.Sublist.append_left ?_ a)
    exact List.Sublist.cons_cons _ (List.nil_sublist b)
  · refine Tri.rot1 (x := x) (l := y :: b) (h.sub ?_)
    exact List.Sublist.cons_cons _ (List.sublist_append_right a _)
theorem sub_int {P : Nat → Pt} {l m : List Nat} {q : Pt} (h : Bay P l) (hm : Bay P m) (s : ∀ x ∈ m, x ∈ l) (hq : Inn P m q) : Inn P l q := fun u v ht => by
  refine int_pos hm (fun x hx => h.le ht (s x hx)) ?_ hq
  -- of three corners of m one is none of u, v
  match m, hm.len, hm.nd with
  | x :: y :: z :: m, _, nd =>
    have key : ∀ n ∈ x :: y :: z :: m, n ≠ u → n ≠ v → ∃ x' ∈ x :: y :: z :: m, 0 < ori (P u) (P v) (P x') := fun n hn h1 h2 => ⟨n, hn, h.left u v ht n (s n hn) h1 h2⟩
    have hxy : x ≠ y := fun e => (List.nodup_cons.mp nd).1 (by simp [e])
    have hxz : x ≠ z := fun e => (List.nodup_cons.mp nd).1 (by simp [e])
    have hyz : y ≠ z := fun e => (List.nodup_cons.mp (List.nodup_cons.mp nd).2).1 (by simp [e])
    by_cases x1 : x = u
    · by_cases y1 : y = v
      · exact key z (by simp) (fun e => hxz (by rw [x1, e])) (fun e => hyz (by rw [y1, e]))
      · exact key y (by simp) (fun e => hxy (by rw [x1, e])) y1
    · by_cases x2 : x = v
      · by_cases y1 : y = u
        · exact key z (by simp) (fun e => hyz (by rw [y1, e])) (fun e => hxz (by rw [x2, e]))
        · exact key y (by simp) y1 (fun e => hxy (by rw [x2, e]))
      · exact key x (by simp) x1 x2
/-! ### small moves -/
theorem small : ∀ (l : List (Rat × Rat)), (∀ c ∈ l, 0 < c.1) → ∃ e : Rat, 0 < e ∧ e ≤ 1 ∧ ∀ t, 0 < t → t ≤ e → ∀ c ∈ l, 0 < c.1 + t * c.2
  | [], _ => ⟨1, by decide +kernel, Rat.le_refl, fun _ _ _ c hc => nomatch hc⟩
  | c :: l, h => by
    obtain ⟨e, e0, e1, he⟩ := small l fun x hx => h x (List.mem_cons_of_mem _ hx)
    have hc := h c List.mem_cons_self
    by_cases hd : 0 ≤ c.2
    · refine ⟨e, e0, e1, fun t t0 t1 x hx => ?_⟩
      rcases List.mem_cons.mp hx with rfl | hx
      · have := Rat.mul_nonneg (Rat.le_of_lt t0) hd; grind
      · exact he t t0 t1 x hx
    · have hn : 0 < -c.2 := by grind
      have hb : 0 < c.1 / (2 * -c.2) := (Rat.lt_div_iff (by grind)).mpr (by grind)
      refine ⟨if e ≤ c.1 / (2 * -c.2) then e else c.1 / (2 * -c.2), by split <;> assumption, by split <;> grind, fun t t0 t1 x hx => ?_⟩
      rcases List.mem_cons.mp hx with rfl | hx
      · have h1 : t ≤ x.1 / (2 * -x.2) := by split at t1 <;> grind
        have h2 : t * (2 * -x.2) ≤ x.1 / (2 * -x.2) * (2 * -x.2) := Rat.mul_le_mul_of_nonneg_right h1 (by grind)
        have h3 : x.1 / (2 * -x.2) * (2 * -x.2) = x.1 := Rat.div_mul_cancel (by grind)
        grind
      · exact he t t0 (by split at t1 <;> grind) x hx
/-- from a spot towards another one -/
def to (q z : Pt) (t : Rat) : Pt := (q.1 + t * (z.1 - q.1), q.2 + t * (z.2 - q.2))
theorem ori_to (a b q z : Pt) (t : Rat) : ori a b (to q z t) = ori a b q + t * (ori a b z - ori a b q) := by unfold ori to; grind
/-- a spot at the midst of a step, a little within -/
theorem step_in {P : Nat → Pt} {f g : List Nat} {u v : Nat} (hf : Bay P f) (hg : Bay P g) (h1 : (u, v) ∈ steps f) (h2 : (u, v) ∈ steps g) : ¬ Dis P f g := fun hd => by
  obtain ⟨n, _, hn⟩ := hf.third h1
  let m : Pt := to (P u) (P v) (1 / 2)
  let cs (l : List Nat) : List (Rat × Rat) := ((steps l).filter fun s => s ≠ (u, v)).map fun s => (ori (P s.1) (P s.2) m, ori (P s.1) (P s.2) (P n) - ori (P s.1) (P s.2) m)
  have pos : ∀ {l : List Nat}, Bay P l → (u, v) ∈ steps l → ∀ c ∈ cs l, 0 < c.1 := fun {l} hl hs c hc => by
    obtain ⟨s, ms, rfl⟩ := List.mem_map.mp hc
    obtain ⟨ms, ne⟩ := List.mem_filter.mp ms
    have ne : s ≠ (u, v) := by simpa using ne
    show 0 < ori (P s.1) (P s.2) (to (P u) (P v) (1 / 2))
    have p1 := hl.le (show (s.1, s.2) ∈ steps l from ms) (steps_mem hs).1
    have p2 := hl.le (show (s.1, s.2) ∈ steps l from ms) (steps_mem hs).2
    rw [ori_to]
    rcases hl.two hs (show (s.1, s.2) ∈ steps l from ms) (fun e => ne e.symm) with z | z <;> grind
  obtain ⟨e, e0, e1, he⟩ := small (cs f ++ cs g) fun c hc => by
    rcases List.mem_append.mp hc with hc | hc
    · exact pos hf h1 c hc
    · exact pos hg h2 c hc
  have inn : ∀ {l : List Nat}, (∀ c ∈ cs l, c ∈ cs f ++ cs g) → Inn P l (to m (P n) e) := fun {l} sub a b hs => by
    by_cases hab : (a, b) = (u, v)
    · cases hab
      rw [ori_to]
      have : ori (P u) (P v) m = 0 := by
        show ori (P u) (P v) (to (P u) (P v) (1 / 2)) = 0
        rw [ori_to, (ori_self _ _).1, (ori_self _ _).2.1]; grind
      rw [this]
      have := Rat.mul_pos e0 hn
      grind
    · rw [ori_to]
      exact he e e0 Rat.le_refl _ (sub _ (List.mem_map.mpr ⟨(a, b), List.mem_filter.mpr ⟨hs, decide_eq_true hab⟩, rfl⟩))
  exact hd _ (inn fun c hc => List.mem_append_left _ hc) (inn fun c hc => List.mem_append_right _ hc)
/-- what lies within a ring may be led off a line that one of its corners is off -/
theorem off_line {P : Nat → Pt} {f g : List Nat} {s t q : Pt} {n : Nat} (hf : Bay P f) (hn : n ∈ f) (hs : ori s t (P n) ≠ 0) (h1 : Inn P f q) (h2 : Inn P g q) : ∃ q', ori s t q' ≠ 0 ∧ Inn P f q' ∧ Inn P g q' := by
  by_cases h0 : ori s t q = 0
  · obtain ⟨e, e0, e1, he⟩ := small ((steps f ++ steps g).map fun c => (ori (P c.1) (P c.2) q, ori (P c.1) (P c.2) (P n) - ori (P c.1) (P c.2) q)) fun c hc => by
      obtain ⟨x, mx, rfl⟩ := List.mem_map.mp hc
      rcases List.mem_append.mp mx with m | m
      · exact h1 _ _ m
      · exact h2 _ _ m
    refine ⟨to q (P n) e, ?_, fun u v m => ?_, fun u v m => ?_⟩
    · rw [ori_to, h0]
      intro z
      rcases Rat.mul_eq_zero.mp (show e * ori s t (P n) = 0 by grind) with y | y
      · grind
      · exact hs y
    · rw [ori_to]; exact he e e0 Rat.le_refl _ (List.mem_map.mpr ⟨(u, v), List.mem_append_left _ m, rfl⟩)
    · rw [ori_to]; exact he e e0 Rat.le_refl _ (List.mem_map.mpr ⟨(u, v), List.mem_append_right _ m, rfl⟩)
  · exact ⟨q, h0, h1, h2⟩
end Geo

/-! GeoD: drawings. -/
namespace Geo
def allSteps (fs : List (List Nat)) : List (Nat × Nat) := fs.flatMap steps
theorem allSteps_mem {fs : List (List Nat)} {s : Nat × Nat} : s ∈ allSteps fs ↔ ∃ f ∈ fs, s ∈ steps f := List.mem_flatMap
theorem allSteps_cons (f : List Nat) (fs : List (List Nat)) : allSteps (f :: fs) = steps f ++ allSteps fs := rfl
theorem allSteps_append (a b : List (List Nat)) : allSteps (a ++ b) = allSteps a ++ allSteps b := by unfold allSteps; rw [List.flatMap_append]
theorem allSteps_perm {a b : List (List Nat)} (h : a.Perm b) : (allSteps a).Perm (allSteps b) := List.Perm.flatMap_right _ h
/-- faces that fill a ring -/
structure Draw (P : Nat → Pt) (fs : List (List Nat)) (rim : List Nat) : Prop where
  bay : ∀ f ∈ fs, Bay P f
  dis : fs.Pairwise (Dis P)
  bd : ∀ u v, (u, v) ∈ steps rim ↔ (u, v) ∈ allSteps fs ∧ (v, u) ∉ allSteps fs
theorem nodup_all {P : Nat → Pt} : ∀ {fs : List (List Nat)}, (∀ f ∈ fs, Bay P f) → fs.Pairwise (Dis P) → (allSteps fs).Nodup
  | [], _, _ => List.nodup_nil
  | f :: fs, hb, hd => by
    have h2 := List.pairwise_cons.mp hd
    rw [allSteps_cons, List.nodup_append]
    refine ⟨steps_nodup (hb f List.mem_cons_self).nd, nodup_all (fun g hg => hb g (List.mem_cons_of_mem _ hg)) h2.2, fun s hs t ht e => ?_⟩
    subst e
    obtain ⟨g, hg, hs2⟩ := allSteps_mem.mp ht
    exact step_in (hb f List.mem_cons_self) (hb g (List.mem_cons_of_mem _ hg)) (u := s.1) (v := s.2) hs hs2 (h2.1 g hg)
theorem Draw.nodup {P : Nat → Pt} {fs : List (List Nat)} {rim : List Nat} (h : Draw P fs rim) : (allSteps fs).Nodup := nodup_all h.bay h.dis
theorem Draw.perm {P : Nat → Pt} {fs gs : List (List Nat)} {rim : List Nat} (h : Draw P fs rim) (p : fs.Perm gs) : Draw P gs rim := by
  refine ⟨fun f hf => h.bay f (p.mem_iff.mpr hf), (p.pairwise_iff fun hab => hab.symm).mp h.dis, fun u v => ?_⟩
  have q := allSteps_perm p
  rw [h.bd, q.mem_iff, q.mem_iff]
theorem Draw.rimRot {P : Nat → Pt} {fs : List (List Nat)} {a b : List Nat} (h : Draw P fs (a ++ b)) : Draw P fs (b ++ a) := ⟨h.bay, h.dis, fun u v => by rw [steps_rot_mem, h.bd]⟩
/-- the faces begun anywhere -/
def Rot (f g : List Nat) : Prop := ∃ a b, f = a ++ b ∧ g = b ++ a
theorem Rot.mem {f g : List Nat} (h : Rot f g) {x : Nat} : x ∈ g ↔ x ∈ f := by
  obtain ⟨a, b, rfl, rfl⟩ := h
  simp [or_comm]
theorem Rot.steps {f g : List Nat} (h : Rot f g) {s : Nat × Nat} : s ∈ steps g ↔ s ∈ steps f := by
  obtain ⟨a, b, rfl, rfl⟩ := h
  exact steps_rot_mem
theorem Rot.bay {P : Nat → Pt} {f g : List Nat} (h : Rot f g) (hf : Bay P f) : Bay P g := by
  obtain ⟨a, b, rfl, rfl⟩ := h
  exact hf.rot
theorem Rot.int {P : Nat → Pt} {f g : List Nat} {q : Pt} (h : Rot f g) : Inn P g q ↔ Inn P f q := by
  unfold Inn
  constructor
  · exact fun z u v hs => z u v (h.steps.mpr hs)
  · exact fun z u v hs => z u v (h.steps.mp hs)
theorem Rot.dis {P : Nat → Pt} {f g f' g' : List Nat} (h : Rot f g) (h' : Rot f' g') (hd : Dis P f f') : Dis P g g' := fun q a b => hd q (h.int.mp a) (h'.int.mp b)
theorem Rot.symm {f g : List Nat} (h : Rot f g) : Rot g f := by
  obtain ⟨a, b, rfl, rfl⟩ := h
  exact ⟨b, a, rfl, rfl⟩
theorem Rot.refl (f : List Nat) : Rot f f := ⟨[], f, rfl, by simp⟩
inductive RotL : List (List Nat) → List (List Nat) → Prop
  | nil : RotL [] []
  | cons {f g : List Nat} {a b : List (List Nat)} : Rot f g → RotL a b → RotL (f :: a) (g :: b)
theorem RotL.mem {a b : List (List Nat)} (h : RotL a b) : ∀ g ∈ b, ∃ f ∈ a, Rot f g := by
  induction h with
  | nil => exact fun g hg => nomatch hg
  | cons r t ih =>
    intro g hg
    rcases List.mem_cons.mp hg with rfl | hg
    · exact ⟨_, List.mem_cons_self, r⟩
    · obtain ⟨f, hf, z⟩ := ih g hg
      exact ⟨f, List.mem_cons_of_mem _ hf, z⟩
theorem RotL.steps {a b : List (List Nat)} (h : RotL a b) {s : Nat × Nat} : s ∈ allSteps b ↔ s ∈ allSteps a := by
  induction h with
  | nil => exact Iff.rfl
  | cons r t ih => rw [allSteps_cons, allSteps_cons, List.mem_append, List.mem_append, r.steps, ih]
theorem RotL.dis {P : Nat → Pt} {a b : List (List Nat)} (h : RotL a b) : a.Pairwise (Dis P) → b.Pairwise (Dis P) := by
  induction h with
  | nil => exact id
  | cons r t ih =>
    intro hd
    have h2 := List.pairwise_cons.mp hd
    refine List.pairwise_cons.mpr ⟨fun g hg => ?_, ih h2.2⟩
    obtain ⟨f, hf, z⟩ := t.mem g hg
    exact r.dis z (h2.1 f hf)
theorem Draw.rotL {P : Nat → Pt} {fs gs : List (List Nat)} {rim : List Nat} (h : Draw P fs rim) (p : RotL fs gs) : Draw P gs rim := by
  refine ⟨fun g hg => ?_, p.dis h.dis, fun u v => by rw [h.bd, p.steps, p.steps]⟩
  obtain ⟨f, hf, z⟩ := p.mem g hg
  exact z.bay (h.bay f hf)
/-! ### other numbers -/
theorem stepsFrom_map (φ : Nat → Nat) : ∀ (p : Nat) (l : List Nat), stepsFrom (φ p) (l.map φ) = (stepsFrom p l).map fun s => (φ s.1, φ s.2)
  | _, [] => rfl
  | p, x :: l => by
    show (φ p, φ x) :: stepsFrom (φ x) (l.map φ) = _
    rw [stepsFrom_map]; rfl
theorem steps_map (φ : Nat → Nat) (l : List Nat) : steps (l.map φ) = (steps l).map fun s => (φ s.1, φ s.2) := by
  cases l with
  | nil => rfl
  | cons x l =>
    rw [List.map_cons, steps_cons, steps_cons, stepsFrom_map]
    have : (l.map φ).getLastD (φ x) = φ (l.getLastD x) := by
      rw [List.getLastD_eq_getLast?, List.getLastD_eq_getLast?, List.getLast?_map]
      cases l.getLast? <;> rfl
    rw [this]; rfl
theorem allSteps_map (φ : Nat → Nat) (fs : List (List Nat)) : allSteps (fs.map (·.map φ)) = (allSteps fs).map fun s => (φ s.1, φ s.2) := by
  induction fs with
  | nil => rfl
  | cons f fs ih => rw [List.map_cons, allSteps_cons, allSteps_cons, ih, steps_map, List.map_append]
theorem allSteps_nums {fs : List (List Nat)} {u v : Nat} (h : (u, v) ∈ allSteps fs) : ∃ f ∈ fs, u ∈ f ∧ v ∈ f := by
  obtain ⟨f, hf, hs⟩ := allSteps_mem.mp h
  exact ⟨f, hf, steps_mem hs⟩
section
variable {P Q : Nat → Pt} {φ : Nat → Nat}
theorem int_map {l : List Nat} (hf : ∀ x ∈ l, Q (φ x) = P x) (q : Pt) : Inn Q (l.map φ) q ↔ Inn P l q := by
  unfold Inn
  rw [steps_map]
  constructor
  · intro h u v hs
    have := h (φ u) (φ v) (List.mem_map.mpr ⟨(u, v), hs, rfl⟩)
    rwa [hf u (steps_mem hs).1, hf v (steps_mem hs).2] at this
  · intro h u v hs
    obtain ⟨⟨a, b⟩, m, e⟩ := List.mem_map.mp hs
    cases e
    rw [hf a (steps_mem m).1, hf b (steps_mem m).2]
    exact h a b m
/-- points known by other numbers -/
theorem Draw.map {fs : List (List Nat)} {rim : List Nat} (h : Draw P fs rim) (hf : ∀ f ∈ fs, ∀ x ∈ f, Q (φ x) = P x) (hi : ∀ f ∈ fs, ∀ x ∈ f, ∀ g ∈ fs, ∀ y ∈ g, φ x = φ y → x = y) : Draw Q (fs.map (·.map φ)) (rim.map φ) := by
  have hin : ∀ {u v a b : Nat}, (u, v) ∈ allSteps fs → (a, b) ∈ allSteps fs → (φ u, φ v) = (φ a, φ b) → (u, v) = (a, b) := fun {u v a b} h1 h2 e => by
    obtain ⟨f, f1, f2, f3⟩ := allSteps_nums h1
    obtain ⟨g, g1, g2, g3⟩ := allSteps_nums h2
    have e1 := hi f f1 u f2 g g1 a g2 (congrArg Prod.fst e)
    have e2 := hi f f1 v f3 g g1 b g3 (congrArg Prod.snd e)
    rw [e1, e2]
  have hin' : ∀ {u v a b : Nat}, (u, v) ∈ allSteps fs → (a, b) ∈ allSteps fs → (φ u, φ v) = (φ b, φ a) → (u, v) = (b, a) := fun {u v a b} h1 h2 e => by
    obtain ⟨f, f1, f2, f3⟩ := allSteps_nums h1
    obtain ⟨g, g1, g2, g3⟩ := allSteps_nums h2
    have e1 := hi f f1 u f2 g g1 b g3 (congrArg Prod.fst e)
    have e2 := hi f f1 v f3 g g1 a g2 (congrArg Prod.snd e)
    rw [e1, e2]
  refine ⟨fun g hg => ?_, ?_, fun u v => ?_⟩
  · obtain ⟨f, m, rfl⟩ := List.mem_map.mp hg
    have hb := h.bay f m
    exact Bay.of_tri (hb.tri.map (hf f m)) (by rw [List.length_map]; exact hb.len)
  · rw [List.pairwise_map]
    refine h.dis.imp_of_mem fun {f g} m m' hd q a b => ?_
    exact hd q ((int_map (hf f m) q).mp a) ((int_map (hf g m') q).mp b)
  · rw [allSteps_map, steps_map]
    constructor
    · intro hs
      obtain ⟨⟨a, b⟩, m, e⟩ := List.mem_map.mp hs
      cases e
      obtain ⟨h1, h2⟩ := (h.bd a b).mp m
      refine ⟨List.mem_map.mpr ⟨(a, b), h1, rfl⟩, fun z => ?_⟩
      obtain ⟨⟨c, d⟩, m2, e⟩ := List.mem_map.mp z
      have := hin' m2 h1 e
      exact h2 (this ▸ m2)
    · rintro ⟨h1, h2⟩
      obtain ⟨⟨a, b⟩, m, e⟩ := List.mem_map.mp h1
      cases e
      exact List.mem_map.mpr ⟨(a, b), (h.bd a b).mpr ⟨m, fun z => h2 (List.mem_map.mpr ⟨(b, a), z, rfl⟩)⟩, rfl⟩
/-- the same points -/
theorem Draw.congr {fs : List (List Nat)} {rim : List Nat} (h : Draw P fs rim) (hf : ∀ f ∈ fs, ∀ x ∈ f, Q x = P x) : Draw Q fs rim := by
  have := Draw.map (Q := Q) (φ := id) h hf (fun _ _ _ _ _ _ _ _ e => e)
  simpa using this
end
/-! ### the ways to build one -/
theorem Draw.one {P : Nat → Pt} {f : List Nat} (h : Bay P f) : Draw P [f] f := by
  refine ⟨fun g hg => by rw [List.mem_singleton.mp hg]; exact h, List.pairwise_singleton _ _, fun u v => ?_⟩
  have e : allSteps [f] = steps f := by simp [allSteps]
  rw [e]
  refine ⟨fun hs => ⟨hs, fun ht => ?_⟩, fun z => z.1⟩
  obtain ⟨n, hn, p⟩ := h.third hs
  have := h.le ht hn
  rw [ori_swap] at this; grind
def tris (f : List Nat) (n : Nat) : List (List Nat) := (steps f).map fun s => [s.1, s.2, n]
theorem tris_steps {f : List Nat} {n : Nat} {u v : Nat} : (u, v) ∈ allSteps (tris f n) ↔ (u, v) ∈ steps f ∨ (u = n ∧ v ∈ f) ∨ (v = n ∧ u ∈ f) := by
  have fst : ∀ x, x ∈ f ↔ ∃ y, (x, y) ∈ steps f := fun x => by
    rw [← (steps_fst f).mem_iff, List.mem_map]
    exact ⟨fun ⟨s, hs, e⟩ => ⟨s.2, by rw [← e]; exact hs⟩, fun ⟨y, hy⟩ => ⟨(x, y), hy, rfl⟩⟩
  have snd : ∀ x, x ∈ f ↔ ∃ y, (y, x) ∈ steps f := fun x => by
    conv => lhs; rw [← steps_snd f]
    rw [List.mem_map]
    exact ⟨fun ⟨s, hs, e⟩ => ⟨s.1, by rw [← e]; exact hs⟩, fun ⟨y, hy⟩ => ⟨(y, x), hy, rfl⟩⟩
  rw [allSteps_mem]
  unfold tris
  constructor
  · rintro ⟨g, hg, hs⟩
    obtain ⟨⟨a, b⟩, m, rfl⟩ := List.mem_map.mp hg
    simp [steps, stepsFrom] at hs
    rcases hs with ⟨rfl, rfl⟩ | ⟨rfl, rfl⟩ | ⟨rfl, rfl⟩
    · exact .inr (.inl ⟨rfl, (steps_mem m).1⟩)
    · exact .inl m
    · exact .inr (.inr ⟨rfl, (steps_mem m).2⟩)
  · rintro (hs | ⟨rfl, hv⟩ | ⟨rfl, hu⟩)
    · exact ⟨_, List.mem_map.mpr ⟨(u, v), hs, rfl⟩, by simp [steps, stepsFrom]⟩
    · obtain ⟨y, hy⟩ := (fst v).mp hv
      exact ⟨_, List.mem_map.mpr ⟨(v, y), hy, rfl⟩, by simp [steps, stepsFrom]⟩
    · obtain ⟨y, hy⟩ := (snd u).mp hu
      exact ⟨_, List.mem_map.mpr ⟨(y, u), hy, rfl⟩, by simp [steps, stepsFrom]⟩
theorem Draw.poke {P : Nat → Pt} {f : List Nat} {fs : List (List Nat)} {rim : List Nat} {n : Nat} (h : Draw P (f :: fs) rim) (hp : Inn P f (P n)) (hn : ∀ g ∈ f :: fs, n ∉ g) : Draw P (tris f n ++ fs) rim := by
  have hf := h.bay f List.mem_cons_self
  have h2 := List.pairwise_cons.mp h.dis
  refine ⟨fun g hg => ?_, ?_, fun u v => ?_⟩
  · rcases List.mem_append.mp hg with hg | hg
    · obtain ⟨⟨a, b⟩, m, rfl⟩ := List.mem_map.mp hg
      exact Bay.of_tri (Tri.three.mpr (hp a b m)) (Nat.le_refl 3)
    · exact h.bay g (List.mem_cons_of_mem _ hg)
  · rw [List.pairwise_append]
    refine ⟨?_, h2.2, fun a ha b hb q i1 i2 => ?_⟩
    · unfold tris
      rw [List.pairwise_map]
      refine (steps_nodup hf.nd).imp_of_mem fun {s t} ms mt ne q i1 i2 => ?_
      exact poke_dis (a := s.1) (b := s.2) (u := t.1) (v := t.2) hf ms mt ne (tri_int.mp i1) (tri_int.mp i2)
    · obtain ⟨⟨c, d⟩, m, rfl⟩ := List.mem_map.mp ha
      exact h2.1 b hb q (poke_sub hf hp m (tri_int.mp i1)) i2
  · have old : ∀ {u v}, (u, v) ∈ allSteps (f :: fs) → u ≠ n ∧ v ≠ n := fun {u v} hs => by
      obtain ⟨g, hg, h1, h2⟩ := allSteps_nums hs
      exact ⟨fun e => hn g hg (e ▸ h1), fun e => hn g hg (e ▸ h2)⟩
    have new : ∀ {u v}, (u, v) ∈ allSteps (tris f n ++ fs) ↔ (u, v) ∈ allSteps (f :: fs) ∨ (u = n ∧ v ∈ f) ∨ (v = n ∧ u ∈ f) := fun {u v} => by
      rw [allSteps_append, List.mem_append, tris_steps, allSteps_cons, List.mem_append]
      constructor
      · rintro ((h | h | h) | h)
        · exact .inl (.inl h)
        · exact .inr (.inl h)
        · exact .inr (.inr h)
        · exact .inl (.inr h)
      · rintro ((h | h) | h | h)
        · exact .inl (.inl h)
        · exact .inr h
        · exact .inl (.inr (.inl h))
        · exact .inl (.inr (.inr h))
    rw [h.bd, new, new]
    constructor
    · rintro ⟨h1, h2⟩
      refine ⟨.inl h1, ?_⟩
      have := old h1
      rintro (z | ⟨e, _⟩ | ⟨e, _⟩)
      · exact h2 z
      · exact this.2 e
      · exact this.1 e
    · rintro ⟨h1 | ⟨e, m⟩ | ⟨e, m⟩, h2⟩
      · exact ⟨h1, fun z => h2 (.inl z)⟩
      · exact absurd (.inr (.inr ⟨e, m⟩)) h2
      · exact absurd (.inr (.inl ⟨e, m⟩)) h2
/-- a step and its way back more, or fewer -/
theorem bd_two {old new : List (Nat × Nat)} {x y : Nat} (hp : ∀ s, s ∈ new ↔ s = (y, x) ∨ s = (x, y) ∨ s ∈ old) (h1 : (x, y) ∉ old) (h2 : (y, x) ∉ old) (u v : Nat) : ((u, v) ∈ old ∧ (v, u) ∉ old) ↔ ((u, v) ∈ new ∧ (v, u) ∉ new) := by
  rw [hp, hp]
  constructor
  · rintro ⟨a, b⟩
    refine ⟨.inr (.inr a), ?_⟩
    rintro (e | e | z)
    · cases e; exact h1 a
    · cases e; exact h2 a
    · exact b z
  · rintro ⟨a, b⟩
    rcases a with e | e | a
    · cases e; exact absurd (.inr (.inl rfl)) b
    · cases e; exact absurd (.inl rfl) b
    · exact ⟨a, fun z => b (.inr (.inr z))⟩
theorem cut_steps (x y : Nat) (a b : List Nat) : (steps (x :: a ++ [y]) ++ steps (y :: b ++ [x])).Perm ((y, x) :: (x, y) :: steps (x :: (a ++ y :: b))) := by
  have l1 : ∀ (l : List Nat) (p q : Nat), (l ++ [p]).getLastD q = p := fun l p q => by rw [List.getLastD_eq_getLast?]; simp
  have l2 : ∀ (l : List Nat) (p q : Nat), (l ++ y :: p :: []).getLastD q = p := fun l p q => by rw [List.getLastD_eq_getLast?]; simp
  rw [List.cons_append, List.cons_append, steps_cons, steps_cons, steps_cons, l1, l1, stepsFrom_append, stepsFrom_append, stepsFrom_append]
  have e : (a ++ y :: b).getLastD x = b.getLastD y := by
    rw [List.getLastD_eq_getLast?, List.getLastD_eq_getLast?, List.getLast?_append]
    cases b with
    | nil => simp
    | cons z b => simp [List.getLast?_cons]
  rw [e]
  show ((y, x) :: (stepsFrom x a ++ [(a.getLastD x, y)]) ++ (x, y) :: (stepsFrom y b ++ [(b.getLastD y, x)])).Perm ((y, x) :: (x, y) :: (b.getLastD y, x) :: (stepsFrom x a ++ (a.getLastD x, y) :: stepsFrom y b))
  rw [List.cons_append]
  refine List.Perm.cons _ ?_
  rw [List.append_assoc]
  refine (List.perm_append_comm (l₁ := stepsFrom x a)).trans ?_
  show ((a.getLastD x, y) :: (x, y) :: (stepsFrom y b ++ [(b.getLastD y, x)] ++ stepsFrom x a)).Perm _
  refine (List.Perm.swap _ _ _).trans (List.Perm.cons _ ?_)
  have p1 : (stepsFrom y b ++ [(b.getLastD y, x)] ++ stepsFrom x a).Perm ((b.getLastD y, x) :: (stepsFrom x a ++ stepsFrom y b)) := by
    rw [List.append_assoc]
    refine (List.perm_append_comm).trans ?_
    rw [List.cons_append, List.nil_append, List.cons_append]
  refine (List.Perm.cons _ p1).trans ((List.Perm.swap _ _ _).trans (List.Perm.cons _ ?_))
  exact (List.perm_middle).symm
theorem Draw.cut {P : Nat → Pt} {x y : Nat} {a b : List Nat} {fs : List (List Nat)} {rim : List Nat} (h : Draw P ((x :: (a ++ y :: b)) :: fs) rim) (ha : a ≠ []) (hb : b ≠ []) : Draw P ((x :: a ++ [y]) :: (y :: b ++ [x]) :: fs) rim := by
  have hf := h.bay _ List.mem_cons_self
  have h2 := List.pairwise_cons.mp h.dis
  obtain ⟨t1, t2⟩ := cut_tri hf.tri
  have la := List.length_pos_iff.mpr ha
  have lb := List.length_pos_iff.mpr hb
  have b1 : Bay P (x :: a ++ [y]) := .of_tri t1 (by simp; omega)
  have b2 : Bay P (y :: b ++ [x]) := .of_tri t2 (by simp; omega)
  have s1 : ∀ z ∈ x :: a ++ [y], z ∈ x :: (a ++ y :: b) := fun z hz => by simp at hz ⊢; rcases hz with e | e | e <;> simp [e]
  have s2 : ∀ z ∈ y :: b ++ [x], z ∈ x :: (a ++ y :: b) := fun z hz => by simp at hz ⊢; rcases hz with e | e | e <;> simp [e]
  have bay : ∀ f ∈ (x :: a ++ [y]) :: (y :: b ++ [x]) :: fs, Bay P f := fun f hm => by
    rcases List.mem_cons.mp hm with rfl | hm
    · exact b1
    · rcases List.mem_cons.mp hm with rfl | hm
      · exact b2
      · exact h.bay f (List.mem_cons_of_mem _ hm)
  have m1 : (y, x) ∈ steps (x :: a ++ [y]) := by
    rw [List.cons_append, steps_cons]
    rw [List.getLastD_eq_getLast?]; simp
  have m2 : (x, y) ∈ steps (y :: b ++ [x]) := by
    rw [List.cons_append, steps_cons]
    rw [List.getLastD_eq_getLast?]; simp
  have dis : ((x :: a ++ [y]) :: (y :: b ++ [x]) :: fs).Pairwise (Dis P) := by
    refine List.pairwise_cons.mpr ⟨fun g hg q i1 i2 => ?_, List.pairwise_cons.mpr ⟨fun g hg q i1 i2 => ?_, h2.2⟩⟩
    · rcases List.mem_cons.mp hg with rfl | hg
      · have p1 := i1 y x m1
        have p2 := i2 x y m2
        rw [ori_swap] at p2; grind
      · exact h2.1 g hg q (sub_int hf b1 s1 i1) i2
    · exact h2.1 g hg q (sub_int hf b2 s2 i1) i2
  have nd := nodup_all bay dis
  have pm : (allSteps ((x :: a ++ [y]) :: (y :: b ++ [x]) :: fs)).Perm ((y, x) :: (x, y) :: allSteps ((x :: (a ++ y :: b)) :: fs)) := by
    rw [allSteps_cons, allSteps_cons, allSteps_cons, ← List.append_assoc]
    exact (cut_steps x y a b).append_right _
  have nd2 := pm.nodup_iff.mp nd
  have n1 := List.nodup_cons.mp nd2
  have n2 := List.nodup_cons.mp n1.2
  refine ⟨bay, dis, fun u v => ?_⟩
  rw [h.bd]
  exact bd_two (fun s => by rw [pm.mem_iff]; simp) n2.1 (fun z => n1.1 (List.mem_cons_of_mem _ z)) u v
/-- two faces beside an edge put together, where that has no bay -/
theorem Draw.join {P : Nat → Pt} {a b : Nat} {r1 r2 : List Nat} {fs : List (List Nat)} {rim : List Nat} (h : Draw P ((b :: r1 ++ [a]) :: (a :: r2 ++ [b]) :: fs) rim) (hr : Bay P (b :: (r1 ++ a :: r2))) : Draw P ((b :: (r1 ++ a :: r2)) :: fs) rim := by
  have hf := h.bay _ List.mem_cons_self
  have hg := h.bay _ (List.mem_cons_of_mem _ List.mem_cons_self)
  have h2 := List.pairwise_cons.mp h.dis
  have h3 := List.pairwise_cons.mp h2.2
  have pm0 := cut_steps b a r1 r2
  have m1 : (a, b) ∈ steps (b :: r1 ++ [a]) := by
    rw [List.cons_append, steps_cons]
    rw [List.getLastD_eq_getLast?]; simp
  have bay : ∀ f ∈ (b :: (r1 ++ a :: r2)) :: fs, Bay P f := fun f hm => by
    rcases List.mem_cons.mp hm with rfl | hm
    · exact hr
    · exact h.bay f (List.mem_cons_of_mem _ (List.mem_cons_of_mem _ hm))
  have dis : ((b :: (r1 ++ a :: r2)) :: fs).Pairwise (Dis P) := by
    refine List.pairwise_cons.mpr ⟨fun g hm q i1 i2 => ?_, h3.2⟩
    obtain ⟨n, hn, p⟩ := hf.third m1
    have hn' : n ∈ b :: (r1 ++ a :: r2) := by simp at hn ⊢; rcases hn with e | e | e <;> simp [e]
    obtain ⟨q', k1, k2, k3⟩ := off_line hr hn' (s := P a) (t := P b) (by grind) i1 i2
    have side : ∀ u v, (u, v) ∈ steps (b :: r1 ++ [a]) ++ steps (a :: r2 ++ [b]) → (u, v) = (a, b) ∨ (u, v) = (b, a) ∨ 0 < ori (P u) (P v) q' := fun u v hs => by
      have := pm0.mem_iff.mp hs
      rcases List.mem_cons.mp this with e | this
      · exact .inl e
      · rcases List.mem_cons.mp this with e | this
        · exact .inr (.inl e)
        · exact .inr (.inr (k2 u v this))
    have hab : (b, a) ∉ steps (b :: r1 ++ [a]) := fun z => by
      have := hf.le z hn
      rw [ori_swap] at this; grind
    have m2 : (b, a) ∈ steps (a :: r2 ++ [b]) := by
      rw [List.cons_append, steps_cons]
      rw [List.getLastD_eq_getLast?]; simp
    have hba : (a, b) ∉ steps (a :: r2 ++ [b]) := fun z => by
      obtain ⟨n', hn', p'⟩ := hg.third m2
      have := hg.le z hn'
      rw [ori_swap] at this; grind
    by_cases hp : 0 < ori (P a) (P b) q'
    · refine h2.1 g (List.mem_cons_of_mem _ hm) q' (fun u v hs => ?_) k3
      rcases side u v (List.mem_append_left _ hs) with e | e | z
      · cases e; exact hp
      · cases e; exact absurd hs hab
      · exact z
    · refine h3.1 g hm q' (fun u v hs => ?_) k3
      rcases side u v (List.mem_append_right _ hs) with e | e | z
      · cases e; exact absurd hs hba
      · cases e; rw [ori_swap]; grind
      · exact z
  have nd := h.nodup
  have pm : (allSteps ((b :: r1 ++ [a]) :: (a :: r2 ++ [b]) :: fs)).Perm ((a, b) :: (b, a) :: allSteps ((b :: (r1 ++ a :: r2)) :: fs)) := by
    rw [allSteps_cons, allSteps_cons, allSteps_cons, ← List.append_assoc]
    exact pm0.append_right _
  have nd2 := pm.nodup_iff.mp nd
  have n1 := List.nodup_cons.mp nd2
  have n2 := List.nodup_cons.mp n1.2
  refine ⟨bay, dis, fun u v => ?_⟩
  rw [h.bd]
  exact (bd_two (fun s => by rw [pm.mem_iff]; simp) n2.1 (fun z => n1.1 (List.mem_cons_of_mem _ z)) u v).symm
end Geo

/-! VmA: the small interpreter: its data, its programs, its run. -/
namespace Vm
open PySem L2

/-- the refusals -/
inductive Ex where
  | NoNumber | NoDrawing | NoEdge | NoCorner | Unlike | NoBalance | NoRoof | NoTurned | NoSites | NoPulls | TooMany | NoText | NoName | NoRow | NoFace | NoSpot | NothingLeft | NoBuilder
  deriving DecidableEq
def Ex.name : Ex → Str
  | .NoNumber => "NoNumber" | .NoDrawing => "NoDrawing" | .NoEdge => "NoEdge" | .NoCorner => "NoCorner" | .Unlike => "Unlike" | .NoBalance => "NoBalance" | .NoRoof => "NoRoof"
  | .NoTurned => "NoTurned" | .NoSites => "NoSites" | .NoPulls => "NoPulls" | .TooMany => "TooMany" | .NoText => "NoText" | .NoName => "NoName" | .NoRow => "NoRow"
  | .NoFace => "NoFace" | .NoSpot => "NoSpot" | .NothingLeft => "NothingLeft" | .NoBuilder => "NoBuilder"

/-- data -/
inductive D where
  | non | bl (b : Bool) | int (i : Int) | str (s : Str)
  | tup (l : List D) | lst (l : List D)
  /-- the script -/
  | sc (l : List Int)
  | dk (l : List (Key × D)) | dt (l : List (List Key × D))
instance : Inhabited D := ⟨.non⟩

/-- a name's place: empty, a value, a list or dict that no one else has, the same while a loop walks it -/
inductive Slot where
  | emp | val (d : D) | own (d : D) | lck (d : D)
instance : Inhabited Slot := ⟨.emp⟩
abbrev Env := List Slot

inductive Res (α : Type) where
  | ok (a : α) (e : Env) | exc (x : Ex) (e : Env) | bad
def Res.bind {α β : Type} (r : Res α) (f : α → Env → Res β) : Res β := match r with
  | .ok a e => f a e
  | .exc x e => .exc x e
  | .bad => .bad
theorem Res.bind_ok {α β : Type} (a : α) (e : Env) (f : α → Env → Res β) : (Res.ok a e).bind f = f a e := rfl
theorem Res.bind_exc {α β : Type} (x : Ex) (e : Env) (f : α → Env → Res β) : (Res.exc x e : Res α).bind f = .exc x e := rfl
theorem Res.bind_bad {α β : Type} (f : α → Env → Res β) : (Res.bad : Res α).bind f = .bad := rfl
def ofO {α : Type} (o : Option α) (e : Env) : Res α := match o with
  | some a => .ok a e
  | none => .bad
theorem ofO_some {α : Type} (a : α) (e : Env) : ofO (some a) e = .ok a e := rfl
theorem ofO_none {α : Type} (e : Env) : ofO (none : Option α) e = .bad := rfl

/-! ### the programs -/
inductive C where
  | non | bl (b : Bool) | int (i : Int) | str (s : Str)
  deriving DecidableEq
def C.d : C → D
  | .non => .non | .bl b => .bl b | .int i => .int i | .str s => .str s
inductive BO where | add | sub | mul | fdiv | mod | pow
  deriving DecidableEq
inductive CO where | eq | ne | lt | le | gt | ge | isIn | notIn | isS | notS
  deriving DecidableEq
/-- built-ins by name, upon values -/
inductive BI where | len | abs | int | str | min | max | all | any | tuple | list | sorted
  deriving DecidableEq
inductive MT where | index | split | join | startswith | get
  deriving DecidableEq
inductive Ty where | str | int | bool | tuple | list
  deriving DecidableEq
mutual
inductive E where
  | con (c : C) | var (i : Nat) | glb (x : Str) (c : C)
  | tup (es : Es) | lst (es : Es)
  | bin (o : BO) (a b : E) | neg (a : E) | cmp (o : CO) (a b : E) | chn (o p : CO) (a b c : E)
  /-- and (true), or (false) -/
  | bop (k : Bool) (es : Es)
  | not (a : E) | ite (c a b : E)
  | idx (a i : E) | slc (a : E) (lo hi : Eo) | stp (a : E) (k : Int)
  | call (f : Nat) (as : As)
  | bi (b : BI) (es : Es)
  | bid (b : BI) (a d : E)
  | lset (a : E)
  | lrng (t : Bool) (es : Es)
  | mth (m : MT) (r : E) (es : Es)
  | isi (a : E) (t : Ty)
  | newd (t : Bool)
  /-- [elt for ts in src if cond]; tp: the target is a tuple -/
  | comp (elt : E) (tp : Bool) (ts : List Nat) (src : Src) (cond : Eo)
inductive Es where
  | nil | cons (a : E) (r : Es)
inductive Eo where
  | none | some (a : E)
/-- arguments: a value; a name, lent; a list of this frame's given to be changed; a new list to be changed; a new list given away -/
inductive As where
  | nil | val (a : E) (r : As) | lend (i : Nat) (r : As) | ref (i : Nat) (r : As) | mov (a : E) (r : As) | give (a : E) (r : As)
inductive Src where
  | ex (a : E) | own (i : Nat) | rng (es : Es) | zip (a b : E)
end
mutual
inductive S where
  | asg (i : Nat) (a : E)
  | unp (ts : List Nat) (a : E)
  | par (i j : Nat) (a b : E)
  | seti (i : Nat) (k : E) (a : E)
  | app (i : Nat) (a : E)
  | ins (i : Nat) (k : E) (a : E)
  | pop (i : Nat)
  | popk (i : Nat) (k : E)
  | xpr (a : E)
  | ret (a : E)
  | ret0
  | ifs (c : E) (a b : Ss)
  | loop (tp : Bool) (ts : List Nat) (src : Src) (b : Ss)
  | whl (fuel : Env → Nat) (c : E) (b : Ss)
  | rse (x : Ex)
  /-- try: b  except RoofError as e: the suite puts lists of isinstance(e, ..) into names -/
  | tryk (i : Nat) (xs : List Ex) (b : Ss) (h : List (Nat × Bool × List (Option Ex)))
inductive Ss where
  | nil | cons (a : S) (r : Ss)
end
/-- a parameter: a value; changed in place; given away to the def -/
inductive PM where | v | r | g
  deriving DecidableEq
/-- a def: its parameters, the number of its names, its body -/
structure Fn where
  ps : List PM
  n : Nat
  body : Ss

/-! ### values -/
def flat : D → Bool
  | .non => true | .bl _ => true | .int _ => true | .str _ => true
  | .tup l => flats l
  | _ => false
where flats : List D → Bool
  | [] => true
  | d :: r => flat d && flats r
def py : D → Option PyData
  | .non => some .none | .bl b => some (.bool b) | .int i => some (.int i) | .str s => some (.str s)
  | .tup l => (pys l).map .tuple
  | .lst l => (pys l).map .list
  | _ => none
where pys : List D → Option (List PyData)
  | [] => some []
  | d :: r => match py d, pys r with
    | some a, some b => some (a :: b)
    | _, _ => none
def eqD (a b : D) : Option Bool := match py a, py b with
  | some x, some y => if SeqAt.shaped x = true ∧ SeqAt.shaped y = true then some (PyData.eqv x y) else none
  | _, _ => none
def mulOk (i j : Int) : Bool := decide (i.natAbs.log2 + j.natAbs.log2 < 1000000)
/-- the division's own way -/
def fdOk (i j : Int) : Bool := !Builtin.divisionGoesByPylong i j
def binD (o : BO) (a b : D) : Option D := match o, a, b with
  | .add, .int i, .int j => some (.int (i + j))
  | .add, .str x, .str y => if x.length + y.length ≤ 16777216 then some (.str (x ++ y)) else none
  | .add, .lst x, .lst y => if x.length + y.length ≤ 16777216 then some (.lst (x ++ y)) else none
  | .add, .tup x, .tup y => if x ≠ [] ∧ x.length + y.length ≤ 16777216 then some (.tup (x ++ y)) else none
  | .sub, .int i, .int j => some (.int (i - j))
  | .mul, .int i, .int j => if mulOk i j then some (.int (i * j)) else none
  | .mul, .lst x, .int k => if k < 4096 ∧ -4096 < k ∧ x.length ≤ 4096 then some (.lst (List.replicate k.toNat x).flatten) else none
  | .fdiv, .int i, .int j => if j ≠ 0 ∧ fdOk i j = true then some (.int (i.fdiv j)) else none
  | .mod, .int i, .int j => if j ≠ 0 then some (.int (i.fmod j)) else none
  | .pow, .int i, .int j => if 0 ≤ j ∧ j ≤ 1000000 ∧ i.natAbs < 2 ^ 64 then some (.int (i ^ j.toNat)) else none
  | _, _, _ => none
def keyOf : D → Option (Key ⊕ List Key)
  | .int i => some (.inl (.inl i))
  | .str s => some (.inl (.inr s))
  | .tup l => if l.length ≤ 2 then (keysOf l).map .inr else none
  | _ => none
where keysOf : List D → Option (List Key)
  | [] => some []
  | .int i :: r => (keysOf r).map (Sum.inl i :: ·)
  | .str s :: r => (keysOf r).map (Sum.inr s :: ·)
  | _ :: _ => none
def keyD : Key → D
  | .inl i => .int i
  | .inr s => .str s
def look {κ : Type} [DecidableEq κ] (kvs : List (κ × D)) (k : κ) : Option D := (kvs.find? fun kv => decide (kv.1 = k)).map (·.2)
def put {κ : Type} [DecidableEq κ] (kvs : List (κ × D)) (k : κ) (v : D) : List (κ × D) :=
  if (look kvs k).isSome then kvs.map fun kv => if kv.1 = k then (kv.1, v) else kv else kvs ++ [(k, v)]
def drop {κ : Type} [DecidableEq κ] (kvs : List (κ × D)) (k : κ) : List (κ × D) := kvs.filter fun kv => decide (kv.1 ≠ k)
/-- d[k], as far as it is there; none: no dict, no key -/
def dget (d k : D) : Option (Option D) := match d, keyOf k with
  | .dk l, some (.inl x) => some (look l x)
  | .dt l, some (.inr x) => some (look l x)
  | _, _ => none
def asInts : List D → Option (List Int)
  | [] => some []
  | .int i :: r => (asInts r).map (i :: ·)
  | _ :: _ => none
def asBools : List D → Option (List Bool)
  | [] => some []
  | .bl i :: r => (asBools r).map (i :: ·)
  | _ :: _ => none
def asStrs : List D → Option (List Str)
  | [] => some []
  | .str i :: r => (asStrs r).map (i :: ·)
  | _ :: _ => none
def inD (a b : D) : Option Bool := match b with
  | .str y => match a with
    | .str x => if x.cps.size = 1 then some (decide (x.cps.getD 0 0 ∈ y.cps.toList)) else none
    | _ => none
  | .lst l => match py a, py.pys l with
    | some x, some ys => if SeqAt.shaped x = true ∧ SeqAt.shaped (.list ys) = true then some (ys.any fun z => PyData.eqv z x) else none
    | _, _ => none
  | .tup l => match a with
    | .int k => (asInts l).map fun ns => ns.any (· == k)
    | .str k => (asStrs l).map fun ns => ns.any (· == k)
    | _ => none
  | .dk _ => (dget b a).map Option.isSome
  | .dt _ => (dget b a).map Option.isSome
  | _ => none
def isNon : D → Bool
  | .non => true
  | _ => false
def cmpD (o : CO) (a b : D) : Option Bool := match o with
  | .eq => eqD a b
  | .ne => (eqD a b).map not
  | .lt => match a, b with | .int i, .int j => some (decide (i < j)) | _, _ => none
  | .le => match a, b with | .int i, .int j => some (decide (i ≤ j)) | _, _ => none
  | .gt => match a, b with | .int i, .int j => some (decide (j < i)) | _, _ => none
  | .ge => match a, b with | .int i, .int j => some (decide (j ≤ i)) | _, _ => none
  | .isIn => inD a b
  | .notIn => (inD a b).map not
  | .isS => match b with
    | .non => some (isNon a)
    | .bl y => match a with | .bl x => some (decide (x = y)) | _ => none
    | _ => none
  | .notS => match b with
    | .non => some (!isNon a)
    | .bl y => match a with | .bl x => some (!decide (x = y)) | _ => none
    | _ => none
def idxD (a i : D) : Option D := match a, i with
  | .tup l, .int k => atI l k
  | .lst l, .int k => atI l k
  | .sc l, .int k => (atI l k).map .int
  | .str s, .int k => if s.length ≤ 16777216 then (atI s.cps.toList k).map fun c => .str ⟨#[c]⟩ else none
  | .dk _, _ => (dget a i).bind id
  | .dt _, _ => (dget a i).bind id
  | _, _ => none
def cutL {α : Type} (xs : List α) (lo hi : Option Int) : List α := (xs.drop (HT.sIx xs.length 0 lo)).take (HT.sIx xs.length xs.length hi - HT.sIx xs.length 0 lo)
def slcD (a : D) (lo hi : Option Int) : Option D := match a with
  | .tup l => some (.tup (cutL l lo hi))
  | .lst l => some (.lst (cutL l lo hi))
  | .str s => if s.length ≤ 16777216 then some (.str (cutS s lo hi)) else none
  | _ => none
def maxL : Int → List Int → Int
  | m, [] => m
  | m, a :: r => maxL (if a > m then a else m) r
def minL : Int → List Int → Int
  | m, [] => m
  | m, a :: r => minL (if a < m then a else m) r
def biLen : List D → Option D
  | [.str s] => if s.length ≤ 16777216 then some (.int s.length) else none
  | [.tup l] => some (.int l.length)
  | [.lst l] => some (.int l.length)
  | [.sc l] => some (.int l.length)
  | [.dk l] => some (.int l.length)
  | _ => none
def biAbs : List D → Option D
  | [.int i] => some (.int (if i < 0 then -i else i))
  | _ => none
def biInt : List D → Option D
  | [.int i] => some (.int i)
  | [.bl b] => some (.int (if b then 1 else 0))
  | [.str s] => if s.length ≤ 640 then (intText? s).map .int else none
  | _ => none
def biStr : List D → Option D
  | [.int i] => if i.natAbs.log2 < 1920 then some (.str (toString i)) else none
  | _ => none
def biMax : List D → Option D
  | [.int i, .int j] => some (.int (if j > i then j else i))
  | [.lst l] => (asInts l).bind fun ns => match ns with | [] => none | a :: r => some (.int (maxL a r))
  | [.tup l] => (asInts l).bind fun ns => match ns with | [] => none | a :: r => some (.int (maxL a r))
  | _ => none
def biMin : List D → Option D
  | [.int i, .int j] => some (.int (if j < i then j else i))
  | [.lst l] => (asInts l).bind fun ns => match ns with | [] => none | a :: r => some (.int (minL a r))
  | [.tup l] => (asInts l).bind fun ns => match ns with | [] => none | a :: r => some (.int (minL a r))
  | _ => none
def biAll : List D → Option D
  | [.lst l] => (asBools l).map fun bs => .bl (bs.all id)
  | _ => none
def biAny : List D → Option D
  | [.lst l] => (asBools l).map fun bs => .bl (bs.any id)
  | _ => none
def biTup : List D → Option D
  | [.tup l] => some (.tup l)
  | [.lst l] => some (.tup l)
  | _ => none
def biLst : List D → Option D
  | [.tup l] => some (.lst l)
  | [.lst l] => some (.lst l)
  | [.dk l] => some (.lst (l.map fun kv => keyD kv.1))
  | [.dt l] => if (l.all fun kv => decide (kv.1.length ≤ 2)) = true then some (.lst (l.map fun kv => .tup (kv.1.map keyD))) else none
  | _ => none
/-- tuples of whole numbers, none empty -/
def asTups : List D → Option (List (List Int))
  | [] => some []
  | .tup l :: r => (asInts l).bind fun ns => if ns = [] then none else (asTups r).map (ns :: ·)
  | _ :: _ => none
def lexB : List Int → List Int → Bool
  | [], [] => false
  | [], _ :: _ => true
  | _ :: _, [] => false
  | x :: a, y :: b => if x = y then lexB a b else decide (x < y)
def lexLe (a b : List Int) : Bool := !lexB b a
def tupD (ns : List Int) : D := .tup (ns.map .int)
def biSort : List D → Option D
  | [.lst l] => match asInts l with
    | some ns => some (.lst ((ns.mergeSort fun a b => decide (a ≤ b)).map .int))
    | none => (asTups l).map fun ts => .lst ((ts.mergeSort lexLe).map tupD)
  | _ => none
/-- max, min with default= -/
def bidD (b : BI) (x d : D) : Option D := match b, x, d with
  | .max, .lst l, .int k => (asInts l).map fun ns => .int (match ns with | [] => k | a :: r => maxL a r)
  | .min, .lst l, .int k => (asInts l).map fun ns => .int (match ns with | [] => k | a :: r => minL a r)
  | _, _, _ => none
def nset (l : List D) : Option D := (asInts l).bind fun ns => if ns.length ≤ 4000 then some (.int (ns.eraseDups.length : Nat)) else none
/-- len(set(..)) -/
def lsetD : D → Option D
  | .tup l => nset l
  | .lst l => nset l
  | _ => none
def indexD (r a : D) : Option D := match r with
  | .tup l => (match a with | .int k => (asInts l).bind fun ns => (ns.findIdx? (· == k)).map fun j => .int (j : Nat) | _ => none)
  | .lst l => (match py a, py.pys l with
    | some x, some ys => if SeqAt.shaped x = true ∧ SeqAt.shaped (.list ys) = true then (ys.findIdx? fun z => PyData.eqv z x).map fun j => .int (j : Nat) else none
    | _, _ => none)
  | _ => none
def biD (b : BI) (l : List D) : Option D := match b with
  | .len => biLen l | .abs => biAbs l | .int => biInt l | .str => biStr l | .max => biMax l | .min => biMin l | .all => biAll l | .any => biAny l
  | .tuple => biTup l | .list => biLst l | .sorted => biSort l
def mthD (m : MT) (r : D) (l : List D) : Option D := match m, r, l with
  | .split, .str x, [.str y] => if (y.length == 0) = false ∧ x.length + 2 ≤ 16777216 then some (.lst ((Txt.split x y).map .str)) else none
  | .startswith, .str x, [.str y] => some (.bl (Txt.startswith x y))
  | .join, .str x, [.lst l] => (asStrs l).bind fun ys => if (ys.map (·.length)).sum + ys.length * x.length ≤ 16777216 then some (.str (Txt.join x ys)) else none
  | .get, d, [k, x] => (dget d k).map fun o => o.getD x
  | .index, d, [k] => indexD d k
  | _, _, _ => none
/-- a receiver -/
def rcv : MT → D → Bool
  | .get, .dk _ => true | .get, .dt _ => true | .get, _ => false
  | .index, .tup l => decide (2 < l.length) | .index, .lst _ => true | .index, _ => false
  | _, .str _ => true | _, _ => false
def isiD (d : D) (t : Ty) : Option Bool := match d, t with
  | .non, _ => some false
  | .bl _, .bool => some true | .bl _, .int => some true | .bl _, _ => some false
  | .int _, .int => some true | .int _, _ => some false
  | .str _, .str => some true | .str _, _ => some false
  | .tup l, t => if l.length ≤ 2 then some (match t with | .tuple => true | _ => false) else none
  | .lst _, .list => some true | .lst _, _ => some false
  | _, _ => none
def rngL (lo : Int) (n : Nat) : List D := (List.range n).map fun i => .int (lo + (i : Nat))
def rngD : List D → Option (List D)
  | [.int n] => if n.toNat < 2 ^ 20 ∧ (-n).toNat ≤ 2 ^ 61 then some (rngL 0 n.toNat) else none
  | [.int a, .int b] => if (a.natAbs < 2 ^ 60 ∧ b.natAbs < 2 ^ 60) ∧ (b - a).toNat < 2 ^ 20 then some (rngL a (b - a).toNat) else none
  | _ => none
/-- what a loop walks -/
def itemsD : D → Option (List D)
  | .tup l => some l
  | .lst l => some l
  | .str s => some (s.cps.toList.map fun c => .str ⟨#[c]⟩)
  | .sc l => some (l.map .int)
  | _ => none
def zipD : D → D → Option (List D)
  | .lst a, .lst b => some ((a.zip b).map fun p => .tup [p.1, p.2])
  | _, _ => none

/-! ### places -/
def getO (e : Env) (i : Nat) : Option D := match e[i]? with
  | some (.own d) => some d
  | some (.lck d) => some d
  | _ => none
/-- a name as a value: what was one's own is no more changed -/
def rd (e : Env) (i : Nat) : Res D := match e[i]? with
  | some (.val d) => .ok d e
  | some (.own d) => .ok d (e.set i (.val d))
  | some (.lck d) => .ok d (e.set i (.val d))
  | _ => .bad
/-- a name that is looked at -/
def pk (e : Env) (i : Nat) : Option D := match e[i]? with
  | some (.val d) => some d
  | some (.own d) => some d
  | some (.lck d) => some d
  | _ => none
/-- what is stored: a new list is one's own -/
def slotOf (fr : Bool) (d : D) : Slot := if fr then .own d else .val d
/-- the names that are given to be changed are never stored to -/
def sto (refs : List Nat) (i : Nat) (s : Slot) (e : Env) : Res Unit := if i ∈ refs ∨ e.length ≤ i then .bad else .ok () (e.set i s)
def stoL (refs : List Nat) : List Nat → List D → Env → Res Unit
  | [], [], e => .ok () e
  | i :: is, d :: ds, e => (sto refs i (.val d) e).bind fun _ e => stoL refs is ds e
  | _, _, _ => .bad
/-- a loop's target -/
def stoT (refs : List Nat) (tp : Bool) (ts : List Nat) (d : D) (e : Env) : Res Unit := match tp, ts, d with
  | false, [i], d => sto refs i (.val d) e
  | true, ts, .tup l => stoL refs ts l e
  | _, _, _ => .bad
/-- the block's own names: none at its begin; behind it they are as they were -/
def hideOk (refs ts : List Nat) (e : Env) : Bool := ts.all fun i => !(refs.contains i) && (match e[i]? with | some .emp => true | some (.val _) => true | _ => false)
def clr : List Nat → Env → Env
  | [], e => e
  | i :: r, e => (clr r e).set i .emp
def back (old : Env) : List Nat → Env → Env
  | [], e => e
  | i :: r, e => (back old r e).set i (old.getD i .emp)

/-- an argument's value -/
inductive AV where
  | val (d : D) | own (d : D) | give (d : D)
/-- a call's outcome: what it tells (new: its own), what became of the lists given to be changed -/
inductive Out where
  | ret (fr : Bool) (d : D) (os : List D) | exc (x : Ex) (os : List D) | bad
abbrev CallT := Nat → List AV → Out
def okLend (fr : Bool) (d : D) : Bool := flat d || (fr && match d with
  | .lst l => flat.flats l
  | _ => false)
/-- a changed list that can have nothing of what was lent -/
def okOut : D → Bool
  | .lst l => flat.flats l
  | .dk l => flat.flats (l.map (·.2))
  | .dt l => flat.flats (l.map (·.2))
  | _ => false
/-- an argument ahead of the call: a value, a new list given away, a name lent, a name to be changed -/
inductive AA where
  | v (d : D) | m (d : D) | g (d : D) | l (i : Nat) | r (i : Nat)
def AA.ix : AA → Option Nat
  | .l i => some i | .r i => some i | _ => none
/-- what the arguments hold when the call begins -/
def fetch (e : Env) : List AA → Option (List AV)
  | [] => some []
  | .v d :: r => (fetch e r).map (.val d :: ·)
  | .m d :: r => (fetch e r).map (.own d :: ·)
  | .g d :: r => (fetch e r).map (.give d :: ·)
  | .l i :: r => (pk e i).bind fun d => (fetch e r).map (.val d :: ·)
  | .r i :: r => match e[i]? with
    | some (.own d) => (fetch e r).map (.own d :: ·)
    | _ => none
def ixs (as : List AA) : List Nat := as.filterMap AA.ix
/-- what was lent is no more one's own -/
def frzS (e : Env) (i : Nat) : Env := match e[i]? with
  | some (.own d) => e.set i (.val d)
  | some (.lck d) => e.set i (.val d)
  | _ => e
def frzA : List AA → Env → Env
  | [], e => e
  | .l i :: r, e => frzS (frzA r e) i
  | _ :: r, e => frzA r e
/-- the changed lists put back -/
def putBack : List AA → List D → Env → Option Env
  | [], [], e => some e
  | .v _ :: r, os, e => putBack r os e
  | .l _ :: r, os, e => putBack r os e
  | .g _ :: r, os, e => putBack r os e
  | .m _ :: r, _ :: os, e => putBack r os e
  | .r i :: r, o :: os, e => (putBack r os e).map fun e => e.set i (.own o)
  | _, _, _ => none
def doCall (call : CallT) (f : Nat) (as : List AA) (e : Env) : Res (Bool × D) := if (ixs as).Nodup then
    match fetch e as with
    | none => .bad
    | some vs => match call f vs with
      | .bad => .bad
      | .ret fr d os => match putBack as os e with
        | some e => .ok (fr, d) (if (okLend fr d && os.all okOut) = true then e else frzA as e)
        | none => .bad
      | .exc x os => match putBack as os e with
        | some e => .exc x (if os.all okOut = true then e else frzA as e)
        | none => .bad
  else .bad

/-! ### the run -/
def isVar : E → Option Nat
  | .var i => some i
  | _ => none
def isL : D → Bool
  | .lst _ => true
  | _ => false
/-- an operand: a name (what it holds is looked at when the operation is done), or a value -/
inductive Opd where
  | slot (i : Nat) | d (d : D)
def got (o : Opd) (e : Env) : Option D := match o with
  | .slot i => pk e i
  | .d d => some d
def opnd (v : Option Nat) (r : Unit → Res (Bool × D)) (e : Env) : Res Opd := match v with
  | some i => match pk e i with
    | some _ => .ok (.slot i) e
    | none => .bad
  | none => (r ()).bind fun p e => .ok (.d p.2) e
def gots (os : List Opd) (e : Env) : Option (List D) := match os with
  | [] => some []
  | o :: r => (got o e).bind fun d => (gots r e).map (d :: ·)
/-- one operand, two -/
def op1 {α : Type} (o : Opd) (e : Env) (f : D → Res α) : Res α := match got o e with
  | some d => f d
  | none => .bad
def op2 {α : Type} (o p : Opd) (e : Env) (f : D → D → Res α) : Res α := match got o e, got p e with
  | some d, some d' => f d d'
  | _, _ => .bad
def opn {α : Type} (os : List Opd) (e : Env) (f : List D → Res α) : Res α := match gots os e with
  | some d => f d
  | none => .bad
def asB : D → Env → Res Bool := fun d e => match d with
  | .bl b => .ok b e
  | _ => .bad
def asI : D → Env → Res Int := fun d e => match d with
  | .int b => .ok b e
  | _ => .bad
def fresh (o : Option D) (e : Env) : Res (Bool × D) := match o with
  | some d => .ok (isL d, d) e
  | none => .bad
def old (o : Option D) (e : Env) : Res (Bool × D) := match o with
  | some d => .ok (false, d) e
  | none => .bad
def ofB (o : Option Bool) (e : Env) : Res (Bool × D) := match o with
  | some d => .ok (false, .bl d) e
  | none => .bad
def rngOk : Es → List D → Bool
  | .cons _ .nil, [_] => true
  | .cons _ (.cons _ .nil), [_, _] => true
  | _, _ => false
/-- what a loop walks: things that are there; a list of one's own, as it stands at each turn -/
inductive Wk where
  | st (l : List D) | ow (i : Nat) (n : Nat)
def Wk.fuel : Wk → Nat
  | .st l => l.length
  | .ow _ n => n
def Wk.look (w : Wk) (e : Env) (n : Nat) : Option (Option D) := match w with
  | .st l => some l[n]?
  | .ow i _ => match pk e i with
    | some (.lst l) => some l[n]?
    | _ => none
def Wk.ix : Wk → List Nat
  | .st _ => []
  | .ow i _ => [i]
def compL (elt : Env → Res (Bool × D)) (cond : Env → Res Bool) (st : D → Env → Res Unit) (w : Wk) : Nat → Nat → Env → Res (List D)
  | 0, n, e => match w.look e n with
    | some none => .ok [] e
    | _ => .bad
  | k + 1, n, e => match w.look e n with
    | some none => .ok [] e
    | some (some d) => match st d e with
      | .ok _ e => match cond e with
        | .ok true e => match elt e with
          | .ok p e => match compL elt cond st w k (n + 1) e with
            | .ok l e => .ok (p.2 :: l) e
            | _ => .bad
          | _ => .bad
        | .ok false e => compL elt cond st w k (n + 1) e
        | _ => .bad
      | _ => .bad
    | none => .bad
mutual
def evE (call : CallT) (refs : List Nat) : E → Env → Res (Bool × D)
  | .con c, e => .ok (false, c.d) e
  | .glb _ c, e => .ok (false, c.d) e
  | .var i, e => (rd e i).bind fun d e => .ok (false, d) e
  | .tup es, e => (evEs call refs es e).bind fun l e => if l.length ≤ 4096 then .ok (false, .tup l) e else .bad
  | .lst es, e => (evEs call refs es e).bind fun l e => if l.length ≤ 4096 then .ok (true, .lst l) e else .bad
  | .bin o a b, e => (opnd (isVar a) (fun _ => evE call refs a e) e).bind fun x e => (opnd (isVar b) (fun _ => evE call refs b e) e).bind fun y e => op2 x y e fun x y => fresh (binD o x y) e
  | .neg a, e => (opnd (isVar a) (fun _ => evE call refs a e) e).bind fun x e => op1 x e fun x => (asI x e).bind fun i e => .ok (false, .int (-i)) e
  | .cmp o a b, e => (opnd (isVar a) (fun _ => evE call refs a e) e).bind fun x e => (opnd (isVar b) (fun _ => evE call refs b e) e).bind fun y e => op2 x y e fun x y => ofB (cmpD o x y) e
  | .chn o p a b c, e => (opnd (isVar a) (fun _ => evE call refs a e) e).bind fun x e => (opnd (isVar b) (fun _ => evE call refs b e) e).bind fun y e =>
      op2 x y e fun x' y' => (ofO (cmpD o x' y') e).bind fun k e => if k = true then (opnd (isVar c) (fun _ => evE call refs c e) e).bind fun z e => op2 y z e fun y z => ofB (cmpD p y z) e else .ok (false, .bl false) e
  | .bop k es, e => evBs call refs k es e
  | .not a, e => (opnd (isVar a) (fun _ => evE call refs a e) e).bind fun x e => op1 x e fun x => (asB x e).bind fun b e => .ok (false, .bl (!b)) e
  | .ite c a b, e => (opnd (isVar c) (fun _ => evE call refs c e) e).bind fun x e => op1 x e fun x => (asB x e).bind fun k e => if k = true then evE call refs a e else evE call refs b e
  | .idx a i, e => (opnd (isVar a) (fun _ => evE call refs a e) e).bind fun x e => (opnd (isVar i) (fun _ => evE call refs i e) e).bind fun y e => op2 x y e fun x y => old (idxD x y) e
  | .slc a lo hi, e => (opnd (isVar a) (fun _ => evE call refs a e) e).bind fun x e => (evEo call refs lo e).bind fun l e => (evEo call refs hi e).bind fun h e => op1 x e fun x => fresh (slcD x l h) e
  | .stp a k, e => .bad
  | .call f as, e => (evAs call refs as e).bind fun vs e => doCall call f vs e
  | .bi b es, e => (evPs call refs es e).bind fun l e => opn l e fun l => fresh (biD b l) e
  | .bid b a d, e => (opnd (isVar a) (fun _ => evE call refs a e) e).bind fun x e => (opnd (isVar d) (fun _ => evE call refs d e) e).bind fun y e => op2 x y e fun x y => fresh (bidD b x y) e
  | .lset a, e => (opnd (isVar a) (fun _ => evE call refs a e) e).bind fun x e => op1 x e fun x => fresh (lsetD x) e
  | .lrng t es, e => (evPs call refs es e).bind fun l e => opn l e fun l => if rngOk es l = true then (ofO (rngD l) e).bind fun l e => if t then .ok (false, .tup l) e else .ok (true, .lst l) e
      else .bad
  | .mth m r es, e => (opnd (isVar r) (fun _ => evE call refs r e) e).bind fun x e => op1 x e fun d => if rcv m d = true then (evEs call refs es e).bind fun l e => op1 x e fun x => match m with
      | .get => old (mthD m x l) e
      | .index => if isL x = isL d then fresh (mthD m x l) e else .bad
      | _ => fresh (mthD m x l) e
      else .bad
  | .isi a t, e => (opnd (isVar a) (fun _ => evE call refs a e) e).bind fun x e => op1 x e fun x => ofB (isiD x t) e
  | .newd t, e => .ok (true, if t then .dt [] else .dk []) e
  | .comp elt tp ts src cond, e => (evSrc call refs src e).bind fun w e => if hideOk (w.ix ++ refs) ts e = true ∧ w.fuel ≤ 16777216 then match compL (fun e => evE call refs elt e) (fun e => evC call refs cond e) (fun d e => stoT refs tp ts d (clr ts e)) w w.fuel 0 e with
        | .ok l e2 => .ok (true, .lst l) (back e ts e2)
        | _ => .bad
      else .bad
def evEs (call : CallT) (refs : List Nat) : Es → Env → Res (List D)
  | .nil, e => .ok [] e
  | .cons a r, e => (evE call refs a e).bind fun p e => (evEs call refs r e).bind fun l e => .ok (p.2 :: l) e
def evPs (call : CallT) (refs : List Nat) : Es → Env → Res (List Opd)
  | .nil, e => .ok [] e
  | .cons a r, e => (opnd (isVar a) (fun _ => evE call refs a e) e).bind fun d e => (evPs call refs r e).bind fun l e => .ok (d :: l) e
def evBs (call : CallT) (refs : List Nat) (k : Bool) : Es → Env → Res (Bool × D)
  | .nil, e => .bad
  | .cons a .nil, e => evE call refs a e
  | .cons a r, e => (opnd (isVar a) (fun _ => evE call refs a e) e).bind fun x e => op1 x e fun x => (asB x e).bind fun b e => if b = k then evBs call refs k r e else .ok (false, .bl b) e
def evEo (call : CallT) (refs : List Nat) : Eo → Env → Res (Option Int)
  | .none, e => .ok none e
  | .some a, e => (opnd (isVar a) (fun _ => evE call refs a e) e).bind fun x e => op1 x e fun x => (asI x e).bind fun i e => .ok (some i) e
def evC (call : CallT) (refs : List Nat) : Eo → Env → Res Bool
  | .none, e => .ok true e
  | .some a, e => (opnd (isVar a) (fun _ => evE call refs a e) e).bind fun x e => op1 x e fun x => asB x e
def evAs (call : CallT) (refs : List Nat) : As → Env → Res (List AA)
  | .nil, e => .ok [] e
  | .val a r, e => (evE call refs a e).bind fun p e => (evAs call refs r e).bind fun l e => .ok (.v p.2 :: l) e
  | .mov a r, e => (evE call refs a e).bind fun p e => if p.1 = true then (evAs call refs r e).bind fun l e => .ok (.m p.2 :: l) e else .bad
  | .give a r, e => (evE call refs a e).bind fun p e => if p.1 = true then (evAs call refs r e).bind fun l e => .ok (.g p.2 :: l) e else .bad
  | .lend i r, e => (ofO (pk e i) e).bind fun _ e => (evAs call refs r e).bind fun l e => .ok (.l i :: l) e
  | .ref i r, e => (ofO (pk e i) e).bind fun _ e => (evAs call refs r e).bind fun l e => .ok (.r i :: l) e
def evSrc (call : CallT) (refs : List Nat) : Src → Env → Res Wk
  | .ex a, e => (evE call refs a e).bind fun p e => ofO ((itemsD p.2).map .st) e
  | .own i, e => match e[i]? with
    | some (.own (.lst l)) => .ok (.ow i (l.length + 4096)) e
    | some (.val d) => ofO ((itemsD d).map .st) e
    | _ => .bad
  | .rng es, e => (evPs call refs es e).bind fun l e => opn l e fun l => if rngOk es l = true then ofO ((rngD l).map .st) e else .bad
  | .zip a b, e => .bad
end
/-- a test -/
def evT (call : CallT) (refs : List Nat) (a : E) (e : Env) : Res Bool := (opnd (isVar a) (fun _ => evE call refs a e) e).bind fun x e => op1 x e fun x => asB x e

inductive SR where
  | next (e : Env) | ret (fr : Bool) (d : D) (e : Env) | exc (x : Ex) (e : Env) | bad
def SR.then (r : SR) (f : Env → SR) : SR := match r with
  | .next e => f e
  | .ret fr d e => .ret fr d e
  | .exc x e => .exc x e
  | .bad => .bad
def Res.to {α : Type} (r : Res α) (f : α → Env → SR) : SR := match r with
  | .ok a e => f a e
  | .exc x e => .exc x e
  | .bad => .bad
def forL (body : Env → SR) (st : D → Env → Res Unit) (w : Wk) : Nat → Nat → Env → SR
  | 0, n, e => match w.look e n with
    | some none => .next e
    | _ => .bad
  | k + 1, n, e => match w.look e n with
    | some none => .next e
    | some (some d) => (st d e).to fun _ e => (body e).then fun e => forL body st w k (n + 1) e
    | none => .bad
def whlL (c : Env → Res Bool) (body : Env → SR) : Nat → Env → SR
  | 0, _ => .bad
  | n + 1, e => (c e).to fun b e => if b = true then (body e).then fun e => whlL c body n e else .next e
def SR.map (f : Env → Env) (r : SR) : SR := match r with
  | .next e => .next (f e)
  | .ret fr d e => .ret fr d (f e)
  | .exc x e => .exc x (f e)
  | .bad => .bad
/-- a change of one's own list or dict -/
def modify (e : Env) (i : Nat) (f : D → Option D) : SR := match e[i]? with
  | some (.own d) => match f d with
    | some d => .next (e.set i (.own d))
    | none => .bad
  | _ => .bad
def modK (e : Env) (i : Nat) (k : Opd) (f : D → D → Option D) : SR := match got k e with
  | some k => modify e i fun d => f d k
  | none => .bad
def setD (d k a : D) : Option D := match d, k with
  | .lst l, .int i => (ixN l.length i).map fun j => .lst (l.set j a)
  | .dk l, k => match keyOf k with
    | some (.inl x) => if l.length < 4096 then some (.dk (put l x a)) else none
    | _ => none
  | .dt l, k => match keyOf k with
    | some (.inr x) => if l.length < 4096 then some (.dt (put l x a)) else none
    | _ => none
  | _, _ => none
def appD (d a : D) : Option D := match d with
  | .lst l => if l.length < 4096 then some (.lst (l ++ [a])) else none
  | _ => none
def insD (d k a : D) : Option D := match d, k with
  | .lst l, .int i => if l.length < 4096 ∧ 0 ≤ i ∧ i.toNat < 2 ^ 62 then some (.lst (l.take i.toNat ++ [a] ++ l.drop i.toNat)) else none
  | _, _ => none
def popD (d : D) : Option D := match d with
  | .lst l => if l = [] then none else some (.lst l.dropLast)
  | _ => none
def popkD (d k : D) : Option D := match d, keyOf k with
  | .dk l, some (.inl x) => if (look l x).isSome = true then some (.dk (drop l x)) else none
  | _, _ => none
/-- the suite's lists -/
def hndl (refs : List Nat) (x : Ex) : List (Nat × Bool × List (Option Ex)) → Env → SR
  | [], e => .next e
  | (j, ap, cs) :: r, e =>
    let l : List D := cs.map fun c => .bl (match c with | some y => decide (x = y) | none => true)
    if e.length ≤ j ∨ j ∈ refs then .bad else if ap = true then match e[j]? with
      | some (.own (.lst o)) => if o.length + l.length ≤ 4096 then hndl refs x r (e.set j (.own (.lst (o ++ l)))) else .bad
      | _ => .bad
    else if l.length ≤ 4096 then hndl refs x r (e.set j (.own (.lst l))) else .bad
mutual
def evS (call : CallT) : S → List Nat → Env → SR
  | .asg i a, refs, e => (evE call refs a e).to fun p e => (sto refs i (slotOf p.1 p.2) e).to fun _ e => .next e
  | .unp ts a, refs, e => (evE call refs a e).to fun p e => match p.2 with
      | .tup l => (stoL refs ts l e).to fun _ e => .next e
      | .lst l => (stoL refs ts l e).to fun _ e => .next e
      | _ => .bad
  | .par i j a b, refs, e => (evE call refs a e).to fun p e => (evE call refs b e).to fun q e => (sto refs j (.val q.2) e).to fun _ e => (sto refs i (.val p.2) e).to fun _ e => .next e
  | .seti i k a, refs, e => (evE call refs a e).to fun p e => match e[i]? with
      | some (.own _) => (opnd (isVar k) (fun _ => evE call refs k e) e).to fun k e => modK e i k fun d k => setD d k p.2
      | _ => .bad
  | .app i a, refs, e => match e[i]? with
      | some (.own (.lst _)) => (evE call refs a e).to fun p e => modify e i fun d => appD d p.2
      | _ => .bad
  | .ins i k a, refs, e => match e[i]? with
    | some (.own (.lst _)) => (opnd (isVar k) (fun _ => evE call refs k e) e).to fun k e => (evE call refs a e).to fun p e => modK e i k fun d k => insD d k p.2
    | _ => .bad
  | .pop i, refs, e => modify e i popD
  | .popk i k, refs, e => (opnd (isVar k) (fun _ => evE call refs k e) e).to fun k e => modK e i k fun d k => popkD d k
  | .xpr a, refs, e => (evE call refs a e).to fun _ e => .next e
  | .ret a, refs, e => match isVar a with
      | some i => match e[i]? with
        | some (.val d) => .ret false d e
        | some (.own d) => if i ∈ refs then .bad else .ret true d (e.set i .emp)
        | some (.lck d) => if i ∈ refs then .bad else .ret true d (e.set i .emp)
        | _ => .bad
      | none => (evE call refs a e).to fun p e => .ret p.1 p.2 e
  | .ret0, refs, e => .ret false .non e
  | .ifs c a b, refs, e => (evT call refs c e).to fun k e => if k = true then evSs call a refs e else evSs call b refs e
  | .loop tp ts src b, refs, e => (evSrc call refs src e).to fun w e => forL (fun e => evSs call b (w.ix ++ refs) e) (stoT (w.ix ++ refs) tp ts) w w.fuel 0 e
  | .whl fuel c b, refs, e => whlL (fun e => evT call refs c e) (fun e => evSs call b refs e) (fuel e) e
  | .rse x, refs, e => .exc x e
  | .tryk i xs b h, refs, e => match evSs call b refs e with
      | .exc x e => if e.length ≤ i ∨ x ∉ xs ∨ i ∈ refs then .bad else (hndl refs x h (e.set i .emp)).then fun e => .next (e.set i .emp)
      | r => r
def evSs (call : CallT) : Ss → List Nat → Env → SR
  | .nil, refs, e => .next e
  | .cons a r, refs, e => (evS call a refs e).then fun e => evSs call r refs e
end

/-! ### defs -/
def params : List PM → List AV → Option Env
  | [], [] => some []
  | .v :: r, .val d :: as => (params r as).map (.val d :: ·)
  | .r :: r, .own d :: as => (params r as).map (.own d :: ·)
  | .g :: r, .give d :: as => (params r as).map (.own d :: ·)
  | _, _ => none
def refsOf : Nat → List PM → List Nat
  | _, [] => []
  | i, .r :: r => i :: refsOf (i + 1) r
  | i, .v :: r => refsOf (i + 1) r
  | i, .g :: r => refsOf (i + 1) r
def outs (e : Env) : List Nat → Option (List D)
  | [] => some []
  | i :: r => (getO e i).bind fun d => (outs e r).map (d :: ·)
def runFn (call : CallT) (f : Fn) (as : List AV) : Out := match params f.ps as with
  | none => .bad
  | some e => match evSs call f.body (refsOf 0 f.ps) (e ++ List.replicate (f.n - e.length) .emp) with
    | .next e => match outs e (refsOf 0 f.ps) with | some os => .ret false .non os | none => .bad
    | .ret fr d e => match outs e (refsOf 0 f.ps) with | some os => .ret fr d os | none => .bad
    | .exc x e => match outs e (refsOf 0 f.ps) with | some os => .exc x os | none => .bad
    | .bad => .bad
def run (tab : Nat → Option Fn) : Nat → CallT
  | 0 => fun _ _ => .bad
  | k + 1 => fun f as => match tab f with
    | some fn => runFn (run tab k) fn as
    | none => .bad
end Vm

/-! VmB: how data lie in the abstract heap; the state of a def that runs. -/
namespace Vm
open PySem PySem.Spec PyProof.Rows L2

def Sub (S H : Hp) : Prop := ∀ b o, S b = some o → H b = some o
theorem Sub.refl (S : Hp) : Sub S S := fun _ _ h => h
theorem Sub.trans {A B C : Hp} (h : Sub A B) (g : Sub B C) : Sub A C := fun b o q => g b o (h b o q)
theorem Sub.upd {S : Hp} {p : Addr} {o : HO} (h : S p = none) : Sub S (upd S p o) := fun b u q => by
  rw [upd_ne (ne_of_none q h)]; exact q
theorem Sub.updR {S H : Hp} {p : Addr} {o : HO} (h : Sub S H) (n : S p = none) : Sub S (L2.upd H p o) := fun b u q => by
  rw [upd_ne (ne_of_none q n)]; exact h b u q
theorem Sub.upd2 {S H : Hp} {p : Addr} {o : HO} (h : Sub S H) : Sub (L2.upd S p o) (L2.upd H p o) := fun b u q => by
  unfold L2.upd at q ⊢
  split
  · rename_i e; rw [if_pos e] at q; exact q
  · rename_i e; rw [if_neg e] at q; exact h b u q
theorem Sub.none {S H : Hp} {p : Addr} (h : Sub S H) (n : H p = Option.none) : S p = Option.none := by
  cases e : S p with
  | none => rfl
  | some o => rw [h p o e] at n; cases n
theorem sqT_sub {K : PySem.W.Frag} {S H : Hp} {a : Addr} {xs : List V} (h : Sub S H) (q : SqT K S a xs) : SqT K H a xs := by
  rcases q with (q | ⟨o, q⟩) | q
  · exact .inl (.inl (h _ _ q))
  · exact .inl (.inr ⟨o, h _ _ q⟩)
  · exact .inr q
theorem sqL_sub {K : PySem.W.Frag} {S H : Hp} {a : Addr} {xs : List V} (h : Sub S H) (q : SqL K S a xs) : SqL K H a xs := by
  rcases q with (q | ⟨o, q⟩) | q
  · exact .inl (.inl (h _ _ q))
  · exact .inl (.inr ⟨o, h _ _ q⟩)
  · exact .inr q

/-- how a tuple lies: of more than two things, with its object known (it has no dict) -/
def TupU (vs : List V) (u : HO) : Prop := if vs.length ≤ 2 then u = .tup vs else ∃ o : Obj, o.dict = none ∧ u = .frz o (.tup vs)
def TupAt (S : Hp) (a : Addr) (vs : List V) : Prop := ∃ u, S a = some u ∧ TupU vs u
theorem TupU.cases {vs : List V} {u : HO} (h : TupU vs u) : u = .tup vs ∨ ∃ o, u = .frz o (.tup vs) := by
  unfold TupU at h
  split at h
  · exact .inl h
  · obtain ⟨o, _, e⟩ := h; exact .inr ⟨o, e⟩
theorem TupAt.sub {S H : Hp} {a : Addr} {vs : List V} (h : TupAt S a vs) (s : Sub S H) : TupAt H a vs := let ⟨u, e, q⟩ := h; ⟨u, s a u e, q⟩
theorem TupAt.sq {K : PySem.W.Frag} {S H : Hp} {a : Addr} {vs : List V} (h : TupAt S a vs) (s : Sub S H) : SqT K H a vs := by
  obtain ⟨u, e, q⟩ := h
  rcases q.cases with rfl | ⟨o, rfl⟩
  · exact .inl (.inl (s _ _ e))
  · exact .inl (.inr ⟨o, s _ _ e⟩)
theorem TupAt.low {S : Hp} {a : Addr} {vs : List V} (h : TupAt S a vs) (l : vs.length ≤ 2) : S a = some (.tup vs) := by
  obtain ⟨u, e, q⟩ := h
  unfold TupU at q
  rw [if_pos l] at q
  rw [e, q]
theorem TupAt.high {S : Hp} {a : Addr} {vs : List V} (h : TupAt S a vs) (l : ¬ vs.length ≤ 2) : ∃ o : Obj, o.dict = none ∧ S a = some (.frz o (.tup vs)) := by
  obtain ⟨u, e, q⟩ := h
  unfold TupU at q
  rw [if_neg l] at q
  obtain ⟨o, z, rfl⟩ := q
  exact ⟨o, z, e⟩
theorem TupAt.nmut {S : Hp} {a : Addr} {vs : List V} (h : TupAt S a vs) : ∃ u, S a = some u ∧ TupU vs u ∧ ¬ Mut (some u) := by
  obtain ⟨u, e, q⟩ := h
  refine ⟨u, e, q, ?_⟩
  rcases q.cases with rfl | ⟨o, rfl⟩ <;> exact fun z => z
theorem TupAt.two {S : Hp} {a : Addr} {vs : List V} (h : S a = some (.tup vs)) (l : vs.length ≤ 2) : TupAt S a vs := ⟨_, h, by unfold TupU; rw [if_pos l]⟩
mutual
/-- v stands for the data d: all that it leans on is in S -/
inductive Rep (K : PySem.W.Frag) (S : Hp) : V → D → Prop
  | non : Rep K S .non .non
  | bl (b : Bool) : Rep K S (.bl b) (.bl b)
  | int (i : Int) : Rep K S (.int i) (.int i)
  | str (s : Str) : Rep K S (.str s) (.str s)
  | tup {a : Addr} {vs : List V} {l : List D} : TupAt S a vs → RepL K S vs l → Rep K S (.ref a) (.tup l)
  | lst {a : Addr} {vs : List V} {l : List D} : S a = some (.lst vs) → RepL K S vs l → Rep K S (.ref a) (.lst l)
  | sc {a : Addr} {l : List Int} : SqL K S a (l.map V.int) → Rep K S (.ref a) (.sc l)
  | dk {a : Addr} {vs : List V} {l : List (Key × D)} : S a = some (.dK ((l.map (·.1)).zip vs)) → RepL K S vs (l.map (·.2)) → Rep K S (.ref a) (.dk l)
  | dt {a : Addr} {vs : List V} {l : List (List Key × D)} : S a = some (.dT ((l.map (·.1)).zip vs)) → RepL K S vs (l.map (·.2)) → Rep K S (.ref a) (.dt l)
inductive RepL (K : PySem.W.Frag) (S : Hp) : List V → List D → Prop
  | nil : RepL K S [] []
  | cons {v : V} {vs : List V} {d : D} {l : List D} : Rep K S v d → RepL K S vs l → RepL K S (v :: vs) (d :: l)
end
section
variable {K : PySem.W.Frag} {S S' H : Hp}
mutual
theorem Rep.mono (h : Sub S S') : ∀ {v : V} {d : D}, Rep K S v d → Rep K S' v d
  | _, _, .non => .non
  | _, _, .bl b => .bl b
  | _, _, .int b => .int b
  | _, _, .str b => .str b
  | _, _, .tup a r => .tup (a.sub h) (RepL.mono h r)
  | _, _, .lst a r => .lst (h _ _ a) (RepL.mono h r)
  | _, _, .sc a => .sc (sqL_sub h a)
  | _, _, .dk a r => .dk (h _ _ a) (RepL.mono h r)
  | _, _, .dt a r => .dt (h _ _ a) (RepL.mono h r)
theorem RepL.mono (h : Sub S S') : ∀ {v : List V} {d : List D}, RepL K S v d → RepL K S' v d
  | _, _, .nil => .nil
  | _, _, .cons a r => .cons (Rep.mono h a) (RepL.mono h r)
end
theorem RepL.length : ∀ {vs : List V} {l : List D}, RepL K S vs l → vs.length = l.length
  | _, _, .nil => rfl
  | _, _, .cons _ r => congrArg Nat.succ (RepL.length r)
theorem RepL.get : ∀ {vs : List V} {l : List D} {i : Nat} {d : D}, RepL K S vs l → l[i]? = some d → ∃ v, vs[i]? = some v ∧ Rep K S v d
  | _, _, _, _, .nil, e => by simp at e
  | _, _, 0, _, .cons r _, e => by simp at e; subst e; exact ⟨_, rfl, r⟩
  | _, _, i + 1, _, .cons _ t, e => by
    obtain ⟨v, h1, h2⟩ := RepL.get (i := i) t (by simpa using e)
    exact ⟨v, by simpa using h1, h2⟩
theorem RepL.append : ∀ {vs ws : List V} {l m : List D}, RepL K S vs l → RepL K S ws m → RepL K S (vs ++ ws) (l ++ m)
  | _, _, _, _, .nil, s => s
  | _, _, _, _, .cons r t, s => .cons r (RepL.append t s)
theorem RepL.set {v : V} {d : D} (r : Rep K S v d) : ∀ {vs : List V} {l : List D} (i : Nat), RepL K S vs l → RepL K S (vs.set i v) (l.set i d)
  | _, _, _, .nil => .nil
  | _, _, 0, .cons _ t => .cons r t
  | _, _, i + 1, .cons q t => .cons q (RepL.set r i t)
theorem RepL.take : ∀ {vs : List V} {l : List D} (n : Nat), RepL K S vs l → RepL K S (vs.take n) (l.take n)
  | _, _, 0, _ => .nil
  | _, _, _ + 1, .nil => .nil
  | _, _, n + 1, .cons r t => .cons r (RepL.take n t)
theorem RepL.drop : ∀ {vs : List V} {l : List D} (n : Nat), RepL K S vs l → RepL K S (vs.drop n) (l.drop n)
  | _, _, 0, r => r
  | _, _, _ + 1, .nil => .nil
  | _, _, n + 1, .cons _ t => RepL.drop n t
theorem RepL.insert {v : V} {d : D} (r : Rep K S v d) : ∀ {vs : List V} {l : List D} (i : Nat), RepL K S vs l → RepL K S (vs.insertIdx i v) (l.insertIdx i d)
  | _, _, 0, .nil => .cons r .nil
  | _, _, _ + 1, .nil => .nil
  | _, _, 0, .cons q t => .cons r (.cons q t)
  | _, _, i + 1, .cons q t => by simp only [List.insertIdx_succ_cons]; exact .cons q (RepL.insert r i t)
theorem RepL.dropLast : ∀ {vs : List V} {l : List D}, RepL K S vs l → RepL K S vs.dropLast l.dropLast := fun {vs l} r => by
  rw [List.dropLast_eq_take, List.dropLast_eq_take, r.length]; exact r.take _
theorem RepL.rep {vs : List V} {l : List D} (r : RepL K S vs l) : ∀ n : Nat, RepL K S (List.replicate n vs).flatten (List.replicate n l).flatten
  | 0 => .nil
  | n + 1 => by rw [List.replicate_succ, List.replicate_succ, List.flatten_cons, List.flatten_cons]; exact r.append (RepL.rep r n)
theorem RepL.ints : ∀ (ns : List Int), RepL K S (ns.map V.int) (ns.map D.int)
  | [] => .nil
  | _ :: r => .cons (.int _) (RepL.ints r)
theorem RepL.strs : ∀ (ns : List Str), RepL K S (ns.map V.str) (ns.map D.str)
  | [] => .nil
  | _ :: r => .cons (.str _) (RepL.strs r)
theorem RepL.asInts : ∀ {vs : List V} {l : List D} {ns : List Int}, RepL K S vs l → asInts l = some ns → vs = ns.map V.int
  | _, _, _, .nil, e => by cases e; rfl
  | _, _, _, .cons (d := d) r t, e => by
    cases r with
    | int i =>
      simp only [Vm.asInts] at e
      cases q : Vm.asInts (by assumption) with
      | none => rw [q] at e; cases e
      | some m => rw [q] at e; cases e; rw [List.map_cons, RepL.asInts t q]
    | _ => cases e
theorem RepL.asBools : ∀ {vs : List V} {l : List D} {ns : List Bool}, RepL K S vs l → asBools l = some ns → vs = ns.map V.bl
  | _, _, _, .nil, e => by cases e; rfl
  | _, _, _, .cons (d := d) r t, e => by
    cases r with
    | bl i =>
      simp only [Vm.asBools] at e
      cases q : Vm.asBools (by assumption) with
      | none => rw [q] at e; cases e
      | some m => rw [q] at e; cases e; rw [List.map_cons, RepL.asBools t q]
    | _ => cases e
theorem RepL.asStrs : ∀ {vs : List V} {l : List D} {ns : List Str}, RepL K S vs l → asStrs l = some ns → vs = ns.map V.str
  | _, _, _, .nil, e => by cases e; rfl
  | _, _, _, .cons (d := d) r t, e => by
    cases r with
    | str i =>
      simp only [Vm.asStrs] at e
      cases q : Vm.asStrs (by assumption) with
      | none => rw [q] at e; cases e
      | some m => rw [q] at e; cases e; rw [List.map_cons, RepL.asStrs t q]
    | _ => cases e
mutual
theorem Rep.py (h : Sub S H) : ∀ {v : V} {d : D} {p : PyData}, Rep K S v d → py d = some p → Dp K H v p
  | _, _, _, .non, e => by cases e; exact .non
  | _, _, _, .bl b, e => by cases e; exact .bl b
  | _, _, _, .int b, e => by cases e; exact .int b
  | _, _, _, .str b, e => by cases e; exact .str b
  | _, _, _, .tup (l := l) a r, e => by
    simp only [Vm.py, Option.map_eq_some_iff] at e
    obtain ⟨ps, q, rfl⟩ := e
    exact .tup (a.sq h) (RepL.py h r q)
  | _, _, _, .lst (l := l) a r, e => by
    simp only [Vm.py, Option.map_eq_some_iff] at e
    obtain ⟨ps, q, rfl⟩ := e
    exact .lst (.of (h _ _ a)) (RepL.py h r q)
  | _, _, _, .sc _, e => by cases e
  | _, _, _, .dk _ _, e => by cases e
  | _, _, _, .dt _ _, e => by cases e
theorem RepL.py (h : Sub S H) : ∀ {v : List V} {d : List D} {p : List PyData}, RepL K S v d → py.pys d = some p → DpAll K H v p
  | _, _, _, .nil, e => by cases e; exact .nil
  | _, _, _, .cons (d := d) (l := l) a r, e => by
    simp only [Vm.py.pys] at e
    cases q1 : Vm.py d with
    | none => rw [q1] at e; cases e
    | some x => cases q2 : Vm.py.pys l with
      | none => rw [q1, q2] at e; cases e
      | some y => rw [q1, q2] at e; cases e; exact .cons (Rep.py h a q1) (RepL.py h r q2)
end
/-- what no change of a list or a dict can touch -/
def NM (S S' : Hp) : Prop := ∀ b o, S b = some o → ¬ Mut (some o) → S' b = some o
mutual
theorem Rep.flat (h : NM S S') : ∀ {v : V} {d : D}, Rep K S v d → flat d = true → Rep K S' v d
  | _, _, .non, _ => .non
  | _, _, .bl b, _ => .bl b
  | _, _, .int b, _ => .int b
  | _, _, .str b, _ => .str b
  | _, _, .tup a r, e => by
    obtain ⟨u, a1, a2, a3⟩ := a.nmut
    exact .tup ⟨u, h _ _ a1 a3, a2⟩ (RepL.flat h r (by simpa only [Vm.flat] using e))
  | _, _, .lst _ _, e => by cases e
  | _, _, .sc _, e => by cases e
  | _, _, .dk _ _, e => by cases e
  | _, _, .dt _ _, e => by cases e
theorem RepL.flat (h : NM S S') : ∀ {v : List V} {d : List D}, RepL K S v d → Vm.flat.flats d = true → RepL K S' v d
  | _, _, .nil, _ => .nil
  | _, _, .cons a r, e => by
    simp only [Vm.flat.flats, Bool.and_eq_true] at e
    exact .cons (Rep.flat h a e.1) (RepL.flat h r e.2)
end

/-- at l lies a list or a dict, its things in S -/
def OwnAt (K : PySem.W.Frag) (S H : Hp) (l : Addr) : D → Prop
  | .lst ds => ∃ vs, H l = some (.lst vs) ∧ RepL K S vs ds
  | .dk kvs => ∃ vs, H l = some (.dK ((kvs.map (·.1)).zip vs)) ∧ RepL K S vs (kvs.map (·.2))
  | .dt kvs => ∃ vs, H l = some (.dT ((kvs.map (·.1)).zip vs)) ∧ RepL K S vs (kvs.map (·.2))
  | _ => False
/-- no one else has it -/
def Own (K : PySem.W.Frag) (S H : Hp) (l : Addr) (d : D) : Prop := S l = none ∧ OwnAt K S H l d
theorem OwnAt.mono {l : Addr} {d : D} (h : Sub S S') {H' : Hp} (e : H' l = H l) (o : OwnAt K S H l d) : OwnAt K S' H' l d := by
  cases d with
  | lst ds => obtain ⟨vs, a, r⟩ := o; exact ⟨vs, by rw [e]; exact a, r.mono h⟩
  | dk ds => obtain ⟨vs, a, r⟩ := o; exact ⟨vs, by rw [e]; exact a, r.mono h⟩
  | dt ds => obtain ⟨vs, a, r⟩ := o; exact ⟨vs, by rw [e]; exact a, r.mono h⟩
  | _ => exact o.elim
theorem OwnAt.some {l : Addr} {d : D} (o : OwnAt K S H l d) : ∃ u, H l = Option.some u ∧ Mut (Option.some u) := by
  cases d with
  | lst ds => obtain ⟨vs, a, r⟩ := o; exact ⟨_, a, trivial⟩
  | dk ds => obtain ⟨vs, a, r⟩ := o; exact ⟨_, a, trivial⟩
  | dt ds => obtain ⟨vs, a, r⟩ := o; exact ⟨_, a, trivial⟩
  | _ => exact o.elim
/-- it becomes a value: the ground takes it -/
theorem OwnAt.rep {l : Addr} {d : D} (o : OwnAt K S H l d) (n : S l = none) {u : HO} (e : H l = Option.some u) : Rep K (upd S l u) (.ref l) d := by
  have hs : Sub S (upd S l u) := Sub.upd n
  cases d with
  | lst ds => obtain ⟨vs, a, r⟩ := o; rw [e] at a; cases a; exact .lst upd_same (r.mono hs)
  | dk ds => obtain ⟨vs, a, r⟩ := o; rw [e] at a; cases a; exact .dk upd_same (r.mono hs)
  | dt ds => obtain ⟨vs, a, r⟩ := o; rw [e] at a; cases a; exact .dt upd_same (r.mono hs)
  | _ => exact o.elim
/-- what an operation sees of a value: the thing itself in H, its things in S -/
def See (K : PySem.W.Frag) (S H : Hp) (v : V) : D → Prop
  | .lst ds => ∃ a vs, v = .ref a ∧ H a = some (.lst vs) ∧ RepL K S vs ds
  | .dk kvs => ∃ a vs, v = .ref a ∧ H a = some (.dK ((kvs.map (·.1)).zip vs)) ∧ RepL K S vs (kvs.map (·.2))
  | .dt kvs => ∃ a vs, v = .ref a ∧ H a = some (.dT ((kvs.map (·.1)).zip vs)) ∧ RepL K S vs (kvs.map (·.2))
  | d => Rep K S v d
theorem Rep.see (h : Sub S H) {v : V} {d : D} (r : Rep K S v d) : See K S H v d := by
  cases r with
  | lst a r => exact ⟨_, _, rfl, h _ _ a, r⟩
  | dk a r => exact ⟨_, _, rfl, h _ _ a, r⟩
  | dt a r => exact ⟨_, _, rfl, h _ _ a, r⟩
  | non => exact .non
  | bl b => exact .bl b
  | int b => exact .int b
  | str b => exact .str b
  | tup a r => exact .tup a r
  | sc a => exact .sc a
theorem OwnAt.see {l : Addr} {d : D} (o : OwnAt K S H l d) : See K S H (.ref l) d := by
  cases d with
  | lst ds => obtain ⟨vs, a, r⟩ := o; exact ⟨_, vs, rfl, a, r⟩
  | dk ds => obtain ⟨vs, a, r⟩ := o; exact ⟨_, vs, rfl, a, r⟩
  | dt ds => obtain ⟨vs, a, r⟩ := o; exact ⟨_, vs, rfl, a, r⟩
  | _ => exact o.elim
theorem See.py (h : Sub S H) {v : V} {d : D} {p : PyData} (r : See K S H v d) (e : Vm.py d = some p) : Dp K H v p := by
  cases d with
  | lst ds =>
    obtain ⟨a, vs, rfl, ha, r⟩ := r
    simp only [Vm.py, Option.map_eq_some_iff] at e
    obtain ⟨ps, q, rfl⟩ := e
    exact .lst (.of ha) (r.py h q)
  | dk ds => cases e
  | dt ds => cases e
  | _ => exact Rep.py h r e
end
end Vm

/-! VmB2: new tuples, their objects known. -/
namespace Vm
open PySem PySem.Spec PyProof.Rows L2
section
variable {X : Cx} {pins : List (Addr × Obj)} {σ : L2.St} {H : Hp} {s : Shared}
/-- the object of a new tuple -/
abbrev tupObj (us : List Value) : Obj := { cls := .type "tuple", data := .seq us.toArray }
def tupHO (vs : List V) (us : List Value) : HO := if vs.length ≤ 2 then .tup vs else .frz (tupObj us) (.tup vs)
theorem tupHO_ok (vs : List V) (us : List Value) : TupU vs (tupHO vs us) := by
  unfold TupU tupHO
  split
  · rfl
  · exact ⟨_, rfl, rfl⟩
theorem tupHO_obj {P : Program} {w : World} {H : Hp} {h : Heap} {a : Addr} {vs : List V} {us : List Value} (z : vs.length ≤ sizeLine) (r : Vals vs us) (e : h.get? a = some (tupObj us)) : ObjOk P w H h a (tupHO vs us) := by
  have t : ObjOk P w H h a (.tup vs) := ⟨z, us, r, ⟨_, e, rfl, _, rfl⟩⟩
  unfold tupHO
  split
  · exact t
  · exact ⟨e, t⟩
def tTupU (t : TA) : TE := fun σ H Q => t σ H fun xs H1 => xs.length ≤ sizeLine ∧ ∀ p u, TupU xs u → H1 p = none → Q (.ref p) (upd H1 p u)
theorem pe_tupU {es : List Expr} {t : TA} {pos : Pos} {x1} (h : PA X es t) : PE X (.Tuple es x1 pos) (tTupU t) := by
  refine ⟨fun pins s σ H Q I hq => ?_⟩
  refine wpAny_Tuple_spliced (thn (h.run pos pins s σ H _ I hq) fun us s1 ⟨xs, H1, I1, r, z, q⟩ => ⟨by rw [← r.length]; exact z, ?_⟩)
  have hf : H1 s1.heap.objs.size = none := I1.hok.fresh (Nat.le_refl _)
  refine ⟨.ref s1.heap.objs.size, upd H1 s1.heap.objs.size (tupHO xs us), I1.laid (t' := s1.toks) (fun b u e => Heap.get?_push_of_some _ e) (Nat.le_refl _) ?_, rfl, q _ _ (tupHO_ok xs us) hf⟩
  exact tupHO_obj z r (Heap.get?_push_size _ rfl)
def tTupRgU (te : L2.St → Hp → (Int → Int → Hp → Prop) → Prop) : TE := fun σ H Q => te σ H fun a b H1 => RgOk a b ∧ ∀ q u, TupU (rgV a b) u → H1 q = none → Q (.ref q) (upd H1 q u)
theorem pe_tupRgU {e : Expr} {te : L2.St → Hp → (Int → Int → Hp → Prop) → Prop} {p pos : Pos} (hc : X.calm = true) (hg : Gl X "tuple") (hm : X.mg "tuple" = none) (he : PRg X e te) (na : starEach [e] X.env = (false, eval e X.env) :: starEach [] X.env := by rfl) : PE X (.Call (.Name "tuple" p) [e] [] pos) (tTupRgU te) := by
  refine ⟨fun pins s σ H Q I h => ?_⟩
  refine Call_ (ld_blt I hg hm boot_tuple (PyProof.Rows.callWith_type1 (args_cons (thn (he pins s σ H _ I h) fun x s1 ⟨r, a, b, t, u, v, H1, ex, hr, I1, ok, q⟩ => args_nil ?_) na) na))
  subst ex
  obtain ⟨b1, b2, b3, b4, b5⟩ := ok
  refine call_tuple_range (n := (b - a).toNat) (I1.ok.hd hc) hr (small_one b1 b2 b3 b4) (rangeSize_nat a b) b5 fun h' tk acc hk hi => ?_
  have I2 : Inv X pins σ H1 { s1 with heap := h', toks := tk } := I1.kept hk
  refine ⟨.ref h'.objs.size, upd H1 h'.objs.size (tupHO (rgV a b) acc.toList), I2.laid (t' := tk) (fun c o e => Heap.get?_push_of_some _ e) (Nat.le_refl _) (tupHO_obj ?_ (vals_rg hi) ?_), rfl, q _ _ (tupHO_ok _ _) (I2.hok.fresh (Nat.le_refl _))⟩
  · rw [rgV_length, sizeLine_eq]; omega
  · exact Heap.get?_push_size _ rfl
theorem call_tuple_ofU : CallR X (.type "tuple") (fun xs H Q => ∃ p ys, xs = [.ref p] ∧ ((SqL X.K H p ys ∧ ∀ l u, TupU ys u → H l = none → Q (.ref l) (upd H l u)) ∨ (SqT X.K H p ys ∧ Q (.ref p) H))) := by
  intro pins s σ H xs us Q I r h
  obtain ⟨p, ys, rfl, h⟩ := h
  obtain ⟨u, rfl, rx⟩ := vals1 r
  cases rx
  rcases h with ⟨hq, q⟩ | ⟨hq, q⟩
  · obtain ⟨its, r', pl, hz⟩ := I.list hq
    have hlen := r'.length
    refine call_tuple_list pl.isList (fun h' kp => ?_) (by simp only [List.size_toArray] <;> omega)
    have I1 : Inv X pins σ H { s with heap := h' } := I.kept (t' := s.toks) kp
    have I2 : Inv X pins σ (upd H h'.objs.size (tupHO ys its)) { s with heap := h'.push { cls := .type "tuple", data := .seq its.toArray } } :=
      I1.laid (t' := s.toks) (fun b o e => Heap.get?_push_of_some _ e) (Nat.le_refl _) (tupHO_obj hz r' (Heap.get?_push_size _ rfl))
    exact ⟨.ref h'.objs.size, _, I2, rfl, q _ _ (tupHO_ok _ _) (I1.hok.fresh (Nat.le_refl _))⟩
  · obtain ⟨its, r', pl, hz⟩ := I.tuple hq
    exact call_tuple_same pl ⟨.ref p, H, I, rfl, q⟩
def rCatU (K : PySem.W.Frag) : R2 := fun x y H Q => ∃ a b xs ys, x = .ref a ∧ y = .ref b ∧ SqT K H a xs ∧ SqT K H b ys ∧ xs ≠ [] ∧ xs.length + ys.length ≤ sizeLine ∧ (ys = [] → Q (.ref a) H) ∧ (ys ≠ [] → ∀ p u, TupU (xs ++ ys) u → H p = none → Q (.ref p) (upd H p u))
theorem op_catU : OpR X (binaryOp .Add) (rCatU X.K) := by
  intro pins s σ H x y v u Q I rx ry h
  obtain ⟨a, b, xs, ys, rfl, rfl, ha, hb, hx, hz, q1, q2⟩ := h
  cases rx
  cases ry
  obtain ⟨its, r1, p1, _⟩ := I.tuple ha
  obtain ⟨its2, r2, p2, _⟩ := I.tuple hb
  refine HT.cat_tup p1 p2 (fun z => hx (r1.nil_iff.mp z)) (fun z => ⟨.ref a, H, I, rfl, q1 (r2.nil_iff.mp z)⟩) (fun z => ?_) (by rw [← r1.length, ← r2.length]; exact hz)
  refine ⟨.ref s.heap.objs.size, _, I.laid (t' := s.toks) (o := tupHO (xs ++ ys) (its ++ its2)) (fun b ob q => Heap.get?_push_of_some _ q) (Nat.le_refl _) ?_, rfl, q2 (fun w => z (r2.nil_iff.mpr w)) _ _ (tupHO_ok _ _) (I.hok.fresh (Nat.le_refl _))⟩
  exact tupHO_obj (by rw [List.length_append]; exact hz) (r1.append r2) (Heap.get?_push_size _ rfl)
def rSlU (K : PySem.W.Frag) : V → Option Int → Option Int → Hp → VK → Prop := fun x lo hi H Q => ∃ a xs, x = .ref a ∧ SqT K H a xs ∧
  (HT.sIx xs.length 0 lo = 0 ∧ HT.sIx xs.length xs.length hi = xs.length → Q (.ref a) H) ∧ (¬ (HT.sIx xs.length 0 lo = 0 ∧ HT.sIx xs.length xs.length hi = xs.length) → ∀ p u, TupU (cutV xs lo hi) u → H p = none → Q (.ref p) (upd H p u))
theorem sl_tupU : SlR X (rSlU X.K) := by
  intro pins s σ H x v vl vu lo hi sl Q I rx hs pl pu h
  obtain ⟨a, xs, rfl, hx, q1, q2⟩ := h
  by_cases hw : HT.sIx xs.length 0 lo = 0 ∧ HT.sIx xs.length xs.length hi = xs.length
  · cases rx
    obtain ⟨its, r, ht, hz⟩ := I.tuple hx
    have hlen : its.toArray.size = xs.length := by rw [List.size_toArray]; exact r.length.symm
    refine ⟨"tuple", _, PyProof.Rows.slot_tuple_getitem.lookup, ht.typeIs, ?_⟩
    exact getItem_tuple_whole ht hs pl pu (by rw [hlen]; exact hw) ⟨.ref a, H, I, rfl, q1 hw⟩
  · cases rx
    obtain ⟨its, r, ht, hz⟩ := I.tuple hx
    have hlen : its.toArray.size = xs.length := by rw [List.size_toArray]; exact r.length.symm
    refine ⟨"tuple", _, PyProof.Rows.slot_tuple_getitem.lookup, ht.typeIs, ?_⟩
    refine HT.getItem_tuple_cut ht hs pl pu (by rw [hlen]; exact hw) ?_ (by rw [hlen]; exact hz)
    rw [hlen]
    refine ⟨.ref s.heap.objs.size, _, I.laid (t' := s.toks) (o := tupHO (cutV xs lo hi) ((its.drop (HT.sIx xs.length 0 lo)).take (HT.sIx xs.length xs.length hi - HT.sIx xs.length 0 lo))) (fun b ob q => Heap.get?_push_of_some _ q) (Nat.le_refl _) ?_, rfl, q2 hw _ _ (tupHO_ok _ _) (I.hok.fresh (Nat.le_refl _))⟩
    exact tupHO_obj (Nat.le_trans (cutV_length xs lo hi) hz) ((r.drop _).take _) (Heap.get?_push_size _ rfl)
end
end Vm

/-! VmC: the state of a def that runs: names, the ground, lists of one's own, lists that are not yet put anywhere. -/
namespace Vm
open PySem PySem.Spec PyProof.Rows L2

/-- the entry: the heap, the ground, the addresses that may be changed, the names of those given to be changed -/
structure Gh where
  H : Hp
  S : Hp
  B : List Addr
  R : List (Nat × Addr)
def IsOwn (e : Env) (i : Nat) (d : D) : Prop := e[i]? = some (.own d) ∨ e[i]? = some (.lck d)
def At (σ : L2.St) (i : Nat) (l : Addr) : Prop := σ[i]? = some (some (.ref l))
structure Rel (K : PySem.W.Frag) (G : Gh) (P : List (Addr × HO)) (e : Env) (σ : L2.St) (S H : Hp) : Prop where
  sub : Sub S H
  fr : ∀ b o, G.H b = some o → b ∉ G.B → H b = some o
  s0 : Sub G.S S
  new : ∀ b o, S b = some o → Mut (some o) → G.S b ≠ none ∨ G.H b = none ∨ b ∈ G.B
  len : e.length = σ.length
  val : ∀ (i : Nat) (d : D), e[i]? = some (.val d) → ∃ v, σ[i]? = some (some v) ∧ Rep K S v d
  own : ∀ i d, IsOwn e i d → ∃ l, At σ i l ∧ Own K S H l d ∧ (G.H l = none ∨ l ∈ G.B)
  sep : ∀ i j d d' l, IsOwn e i d → IsOwn e j d' → At σ i l → At σ j l → i = j
  pen : ∀ p ∈ P, H p.1 = some p.2 ∧ S p.1 = none ∧ (∀ i d, IsOwn e i d → ¬ At σ i p.1) ∧ (G.H p.1 = none ∨ p.1 ∈ G.B) ∧ Mut (some p.2)
  pnd : (P.map (·.1)).Nodup
  refs : ∀ r ∈ G.R, At σ r.1 r.2
/-- a new list that nothing else has -/
structure Fre (K : PySem.W.Frag) (G : Gh) (P : List (Addr × HO)) (e : Env) (σ : L2.St) (S H : Hp) (l : Addr) (d : D) : Prop where
  own : Own K S H l d
  noe : ∀ i d', IsOwn e i d' → ¬ At σ i l
  nop : ∀ p ∈ P, p.1 ≠ l
  gh : G.H l = none ∨ l ∈ G.B

section
variable {K : PySem.W.Frag} {G : Gh} {P : List (Addr × HO)} {e : Env} {σ : L2.St} {S H : Hp}
theorem IsOwn.lt {i : Nat} {d : D} (h : IsOwn e i d) : i < e.length := by
  rcases h with h | h <;> exact (List.getElem?_eq_some_iff.mp h).1
theorem IsOwn.inj {i : Nat} {d d' : D} (h : IsOwn e i d) (h' : IsOwn e i d') : d = d' := by
  rcases h with h | h <;> rcases h' with h' | h' <;> (rw [h] at h'; cases h') <;> rfl
/-- the ground takes a thing that is new, or that was one's own -/
theorem Rel.ground (R : Rel K G P e σ S H) {p : Addr} {u : HO} (n : S p = none) (hu : H p = some u) (ne : ∀ i d, IsOwn e i d → ¬ At σ i p) (np : ∀ q ∈ P, q.1 ≠ p) (g : G.H p = none ∨ p ∈ G.B) : Rel K G P e σ (upd S p u) H where
  sub := fun b o q => by
    by_cases h : b = p
    · subst h; rw [upd_same] at q; cases q; exact hu
    · rw [upd_ne h] at q; exact R.sub b o q
  fr := R.fr
  s0 := R.s0.trans (Sub.upd n)
  new := fun b o q m => by
    by_cases h : b = p
    · subst h; exact .inr g
    · rw [upd_ne h] at q; exact R.new b o q m
  len := R.len
  val := fun i d q => let ⟨v, a, r⟩ := R.val i d q; ⟨v, a, r.mono (Sub.upd n)⟩
  own := fun i d q => by
    obtain ⟨l, a, ⟨o1, o2⟩, g⟩ := R.own i d q
    have : l ≠ p := fun z => ne i d q (z ▸ a)
    exact ⟨l, a, ⟨by rw [upd_ne this]; exact o1, o2.mono (Sub.upd n) rfl⟩, g⟩
  sep := R.sep
  pen := fun q hq => let ⟨a, b, c, d⟩ := R.pen q hq; ⟨a, by rw [upd_ne (np q hq)]; exact b, c, d⟩
  pnd := R.pnd
  refs := R.refs
/-- the ground takes what never changes -/
theorem Rel.ext (R : Rel K G P e σ S H) {S1 : Hp} (h1 : Sub S S1) (h2 : Sub S1 H) (h3 : ∀ b o, S1 b = some o → S b = some o ∨ ¬ Mut (some o)) : Rel K G P e σ S1 H := by
  have no : ∀ {l u}, S l = none → H l = some u → Mut (some u) → S1 l = none := fun {l u} n hu m => by
    cases q : S1 l with
    | none => rfl
    | some o =>
      rcases h3 l o q with z | z
      · rw [n] at z; cases z
      · have := h2 l o q
        rw [hu] at this; cases this; exact absurd m z
  exact {
    sub := h2, fr := R.fr, s0 := R.s0.trans h1
    new := fun b o q m => by
      rcases h3 b o q with z | z
      · exact R.new b o z m
      · exact absurd m z
    len := R.len
    val := fun i d q => let ⟨v, a, r⟩ := R.val i d q; ⟨v, a, r.mono h1⟩
    own := fun i d q => by
      obtain ⟨l, a, ⟨o1, o2⟩, g⟩ := R.own i d q
      obtain ⟨u, hu, m⟩ := o2.some
      exact ⟨l, a, ⟨no o1 hu m, o2.mono h1 rfl⟩, g⟩
    sep := R.sep
    pen := fun q hq => let ⟨a, b, c, d, m⟩ := R.pen q hq; ⟨a, no b a m, c, d, m⟩
    pnd := R.pnd, refs := R.refs }
/-- the heap has changed at one free place: laid -/
theorem Rel.laid (R : Rel K G P e σ S H) {p : Addr} {u : HO} (n : H p = none) : Rel K G P e σ S (upd H p u) := by
  have key : ∀ {b o}, H b = some o → b ≠ p := fun {b o} q z => by subst z; rw [n] at q; cases q
  exact {
    sub := R.sub.updR (R.sub.none n)
    fr := fun b o q hb => by rw [upd_ne (key (R.fr b o q hb))]; exact R.fr b o q hb
    s0 := R.s0, new := R.new, len := R.len, val := R.val
    own := fun i d q => by
      obtain ⟨l, a, ⟨o1, o2⟩, g⟩ := R.own i d q
      obtain ⟨u, hu, _⟩ := o2.some
      exact ⟨l, a, ⟨o1, o2.mono (Sub.refl S) (upd_ne (key hu))⟩, g⟩
    sep := R.sep
    pen := fun q hq => let ⟨a, b, c, d⟩ := R.pen q hq; ⟨by rw [upd_ne (key a)]; exact a, b, c, d⟩
    pnd := R.pnd, refs := R.refs }
theorem Rel.gfree (R : Rel K G P e σ S H) {p : Addr} (n : H p = none) : G.H p = none ∨ p ∈ G.B := by
  by_cases h : p ∈ G.B
  · exact .inr h
  · refine .inl ?_
    cases q : G.H p with
    | none => rfl
    | some o => rw [R.fr p o q h] at n; cases n
/-- a new value: laid, and in the ground -/
theorem Rel.alloc (R : Rel K G P e σ S H) {p : Addr} {u : HO} (n : H p = none) : Rel K G P e σ (upd S p u) (upd H p u) := by
  refine (R.laid (u := u) n).ground (R.sub.none n) upd_same (fun i d q a => ?_) (fun q hq z => ?_) (R.gfree n)
  · obtain ⟨l, a', ⟨_, o2⟩, _⟩ := R.own i d q
    have : l = p := by have := a.symm.trans a'; cases this; rfl
    subst this
    obtain ⟨u, hu, _⟩ := o2.some
    rw [n] at hu; cases hu
  · have := (R.pen q hq).1
    rw [z, n] at this; cases this
/-- a new list: laid, no one has it -/
theorem Rel.fresh (R : Rel K G P e σ S H) {p : Addr} {u : HO} {d : D} (n : H p = none) (o : OwnAt K S (upd H p u) p d) : Rel K G P e σ S (upd H p u) ∧ Fre K G P e σ S (upd H p u) p d := by
  refine ⟨R.laid n, ⟨R.sub.none n, o⟩, fun i d' q a => ?_, fun q hq z => ?_, R.gfree n⟩
  · obtain ⟨l, a', ⟨_, o2⟩, _⟩ := R.own i d' q
    have : l = p := by have := a.symm.trans a'; cases this; rfl
    subst this
    obtain ⟨u, hu, _⟩ := o2.some
    rw [n] at hu; cases hu
  · have := (R.pen q hq).1
    rw [z, n] at this; cases this
/-- a new list becomes a value -/
theorem Rel.frz (R : Rel K G P e σ S H) {l : Addr} {d : D} (F : Fre K G P e σ S H l d) : ∃ S', Sub S S' ∧ Rel K G P e σ S' H ∧ Rep K S' (.ref l) d := by
  obtain ⟨u, hu, _⟩ := F.own.2.some
  exact ⟨_, Sub.upd F.own.1, R.ground F.own.1 hu F.noe F.nop F.gh, F.own.2.rep F.own.1 hu⟩
/-- a name's own list becomes a value -/
theorem Rel.frzSlot (R : Rel K G P e σ S H) {i : Nat} {d : D} (h : IsOwn e i d) : ∃ S', Sub S S' ∧ Rel K G P (e.set i (.val d)) σ S' H := by
  obtain ⟨l, a, ⟨o1, o2⟩, g⟩ := R.own i d h
  obtain ⟨u, hu, _⟩ := o2.some
  have hs : Sub S (upd S l u) := Sub.upd o1
  have old : ∀ {j d'}, IsOwn (e.set i (.val d)) j d' → j ≠ i ∧ IsOwn e j d' := fun {j d'} q => by
    by_cases z : j = i
    · subst z
      rcases q with q | q <;> (rw [List.getElem?_set_self h.lt] at q; cases q)
    · refine ⟨z, ?_⟩
      rcases q with q | q
      · rw [List.getElem?_set_ne (Ne.symm z)] at q; exact .inl q
      · rw [List.getElem?_set_ne (Ne.symm z)] at q; exact .inr q
  refine ⟨upd S l u, hs, {
    sub := fun b o q => by
      by_cases hb : b = l
      · subst hb; rw [upd_same] at q; cases q; exact hu
      · rw [upd_ne hb] at q; exact R.sub b o q
    fr := R.fr
    s0 := R.s0.trans hs
    new := fun b o q m => by
      by_cases hb : b = l
      · subst hb; exact .inr g
      · rw [upd_ne hb] at q; exact R.new b o q m
    len := by rw [List.length_set]; exact R.len
    val := fun j d' q => by
      by_cases z : j = i
      · subst z
        rw [List.getElem?_set_self h.lt] at q; cases q
        exact ⟨.ref l, a, o2.rep o1 hu⟩
      · rw [List.getElem?_set_ne (Ne.symm z)] at q
        obtain ⟨v, a', r⟩ := R.val j d' q
        exact ⟨v, a', r.mono hs⟩
    own := fun j d' q => by
      obtain ⟨z, q⟩ := old q
      obtain ⟨l', a', ⟨p1, p2⟩, g'⟩ := R.own j d' q
      have : l' ≠ l := fun w => z (R.sep j i d' d l' q h a' (by rw [w]; exact a))
      exact ⟨l', a', ⟨by rw [upd_ne this]; exact p1, p2.mono hs rfl⟩, g'⟩
    sep := fun j k d1 d2 l' q1 q2 => R.sep j k d1 d2 l' (old q1).2 (old q2).2
    pen := fun q hq => by
      obtain ⟨x1, x2, x3, x4⟩ := R.pen q hq
      have : q.1 ≠ l := fun w => x3 i d h (by rw [w]; exact a)
      exact ⟨x1, by rw [upd_ne this]; exact x2, (fun j d' q' => x3 j d' (old q').2), x4⟩
    pnd := R.pnd, refs := R.refs }⟩
/-- less is kept of the names (their lists stay where they lie) -/
theorem Rel.weak {e' : Env} (R : Rel K G P e σ S H) (hl : e'.length = e.length) (h : ∀ (i : Nat) (s : Slot), e'[i]? = some s → s = .emp ∨ e[i]? = some s) : Rel K G P e' σ S H := by
  have old : ∀ {j d'}, IsOwn e' j d' → IsOwn e j d' := fun {j d'} q => by
    rcases q with q | q
    · rcases h _ _ q with z | z
      · cases z
      · exact .inl z
    · rcases h _ _ q with z | z
      · cases z
      · exact .inr z
  exact { sub := R.sub, fr := R.fr, s0 := R.s0, new := R.new, len := hl.trans R.len
          val := fun i d q => R.val i d (by rcases h _ _ q with z | z; cases z; exact z)
          own := fun i d q => R.own i d (old q)
          sep := fun i j d d' l q1 q2 => R.sep i j d d' l (old q1) (old q2)
          pen := fun q hq => let ⟨a, b, c, x⟩ := R.pen q hq; ⟨a, b, fun i d z => c i d (old z), x⟩
          pnd := R.pnd, refs := R.refs }
/-- locked and freed: the same -/
theorem Rel.lck {e' : Env} (R : Rel K G P e σ S H) (hl : e'.length = e.length) (h1 : ∀ (i : Nat) (d : D), e'[i]? = some (.val d) → e[i]? = some (.val d)) (h2 : ∀ i d, IsOwn e' i d → IsOwn e i d) : Rel K G P e' σ S H :=
  { sub := R.sub, fr := R.fr, s0 := R.s0, new := R.new, len := hl.trans R.len
    val := fun i d q => R.val i d (h1 i d q)
    own := fun i d q => R.own i d (h2 i d q)
    sep := fun i j d d' l q1 q2 => R.sep i j d d' l (h2 _ _ q1) (h2 _ _ q2)
    pen := fun q hq => let ⟨a, b, c, x⟩ := R.pen q hq; ⟨a, b, fun i d z => c i d (h2 _ _ z), x⟩
    pnd := R.pnd, refs := R.refs }
theorem Rel.pick (R : Rel K G P e σ S H) {i : Nat} {d : D} (h : pk e i = some d) : ∃ v, σ[i]? = some (some v) ∧ See K S H v d := by
  unfold pk at h
  split at h
  · rename_i d' q; cases h
    obtain ⟨v, a, r⟩ := R.val i _ q
    exact ⟨v, a, r.see R.sub⟩
  · rename_i d' q; cases h
    obtain ⟨l, a, o, _⟩ := R.own i _ (.inl q)
    exact ⟨.ref l, a, o.2.see⟩
  · rename_i d' q; cases h
    obtain ⟨l, a, o, _⟩ := R.own i _ (.inr q)
    exact ⟨.ref l, a, o.2.see⟩
  · cases h
/-- a new list waits -/
theorem Rel.push (R : Rel K G P e σ S H) {l : Addr} {d : D} (F : Fre K G P e σ S H l d) {u : HO} (hu : H l = some u) : Rel K G ((l, u) :: P) e σ S H :=
  { sub := R.sub, fr := R.fr, s0 := R.s0, new := R.new, len := R.len, val := R.val, own := R.own, sep := R.sep
    pen := fun q hq => by
      rcases List.mem_cons.mp hq with rfl | hq
      · obtain ⟨u', hu', m⟩ := F.own.2.some
        rw [hu] at hu'; cases hu'
        exact ⟨hu, F.own.1, F.noe, F.gh, m⟩
      · exact R.pen q hq
    pnd := by
      rw [List.map_cons, List.nodup_cons]
      refine ⟨fun hm => ?_, R.pnd⟩
      obtain ⟨q, hq, e⟩ := List.mem_map.mp hm
      exact F.nop q hq e
    refs := R.refs }
theorem Rel.tail {p : Addr × HO} (R : Rel K G (p :: P) e σ S H) : Rel K G P e σ S H :=
  { sub := R.sub, fr := R.fr, s0 := R.s0, new := R.new, len := R.len, val := R.val, own := R.own, sep := R.sep
    pen := fun q hq => R.pen q (List.mem_cons_of_mem _ hq)
    pnd := (List.nodup_cons.mp R.pnd).2
    refs := R.refs }
/-- the first that waits, taken -/
theorem Rel.pop {l : Addr} {u : HO} {d : D} {S0 : Hp} (R : Rel K G ((l, u) :: P) e σ S H) (o : OwnAt K S0 (fun a => if a = l then some u else none) l d) (hs : Sub S0 S) : Fre K G P e σ S H l d := by
  obtain ⟨a, b, c, x⟩ := R.pen (l, u) List.mem_cons_self
  refine ⟨⟨b, o.mono hs (by simp only [if_pos]; exact a)⟩, c, fun q hq z => ?_, x.1⟩
  have := (List.nodup_cons.mp R.pnd).1
  exact this (List.mem_map.mpr ⟨q, hq, z⟩)
end
end Vm

/-! VmD: the operations upon values. -/
namespace Vm
open PySem PySem.Spec PyProof.Rows L2

theorem line_eq : (sizeLine : Nat) = 16777216 := sizeLine_eq
/-- v in H' stands for d: nothing was made, or one thing, new (the ground may have taken what never changes) -/
def New (K : PySem.W.Frag) (S H : Hp) (v : V) (H' : Hp) (d : D) : Prop :=
  ∃ S1, Sub S S1 ∧ Sub S1 H ∧ (∀ b o, S1 b = some o → S b = some o ∨ ¬ Mut (some o)) ∧
  ((H' = H ∧ isL d = false ∧ Rep K S1 v d) ∨ ∃ p u, v = .ref p ∧ H p = none ∧ H' = upd H p u ∧ (isL d = true → OwnAt K S1 H' p d) ∧ (isL d = false → Rep K (upd S1 p u) v d))
def Told (K : PySem.W.Frag) (S H : Hp) (Q : VK) (o : Option D) : Prop := match o with
  | some d => ∀ v H', New K S H v H' d → Q v H'
  | none => False
section
variable {K : PySem.W.Frag} {S H : Hp} {Q : VK}
theorem told_rep {d : D} {v : V} (hs : Sub S H) (h : Told K S H Q (some d)) (l : isL d = false) (r : Rep K S v d) : Q v H := h v H ⟨S, .refl S, hs, fun _ _ q => .inl q, .inl ⟨rfl, l, r⟩⟩
theorem told_int {i : Int} (hs : Sub S H) (h : Told K S H Q (some (.int i))) : Q (.int i) H := told_rep hs h rfl (.int i)
theorem told_bl {i : Bool} (hs : Sub S H) (h : Told K S H Q (some (.bl i))) : Q (.bl i) H := told_rep hs h rfl (.bl i)
theorem told_str {i : Str} (hs : Sub S H) (h : Told K S H Q (some (.str i))) : Q (.str i) H := told_rep hs h rfl (.str i)
theorem told_lst {l : List D} {vs : List V} (hs : Sub S H) (h : Told K S H Q (some (.lst l))) (r : RepL K S vs l) : ∀ p, H p = none → Q (.ref p) (upd H p (.lst vs)) := fun p n =>
  h _ _ ⟨S, .refl S, hs, fun _ _ q => .inl q, .inr ⟨p, _, rfl, n, rfl, (fun _ => ⟨vs, upd_same, r⟩), (fun z => nomatch z)⟩⟩
theorem told_tup {l : List D} {vs : List V} (hs : Sub S H) (h : Told K S H Q (some (.tup l))) (r : RepL K S vs l) : ∀ p u, TupU vs u → H p = none → Q (.ref p) (upd H p u) := fun p u hu n =>
  h _ _ ⟨S, .refl S, hs, fun _ _ q => .inl q, .inr ⟨p, _, rfl, n, rfl, (fun z => nomatch z), (fun _ => .tup ⟨u, upd_same, hu⟩ (r.mono (Sub.upd (hs.none n))))⟩⟩
/-- two operands -/
def r2 (K : PySem.W.Frag) (f : D → D → Option D) : R2 := fun x y H Q => ∃ S d1 d2, Sub S H ∧ See K S H x d1 ∧ See K S H y d2 ∧ Told K S H Q (f d1 d2)
theorem see_int {v : V} {i : Int} (h : See K S H v (.int i)) : v = .int i := by cases h; rfl
theorem see_bl {v : V} {i : Bool} (h : See K S H v (.bl i)) : v = .bl i := by cases h; rfl
theorem see_str {v : V} {i : Str} (h : See K S H v (.str i)) : v = .str i := by cases h; rfl
theorem see_non {v : V} (h : See K S H v .non) : v = .non := by cases h; rfl
theorem see_tup {v : V} {l : List D} (h : See K S H v (.tup l)) : ∃ a vs, v = .ref a ∧ TupAt S a vs ∧ RepL K S vs l := by
  cases h with | tup a r => exact ⟨_, _, rfl, a, r⟩
theorem see_sc {v : V} {l : List Int} (h : See K S H v (.sc l)) : ∃ a, v = .ref a ∧ SqL K S a (l.map V.int) := by
  cases h with | sc a => exact ⟨_, rfl, a⟩
end
section
variable {X : Cx}
def boOp : BO → Operator
  | .add => .Add | .sub => .Sub | .mul => .Mult | .fdiv => .FloorDiv | .mod => .Mod | .pow => .Pow
theorem op_fdivZ : OpR X (binaryOp .FloorDiv) (rI (fun i j => j ≠ 0 ∧ fdOk i j = true) fun i j => .int (i.fdiv j)) := opI fun _ _ _ _ _ _ _ hc q => floordiv_int hc.1 q (.inl (by have := hc.2; unfold fdOk at this; simpa using this))
theorem mulZ {i j : Int} (h : i.natAbs.log2 + j.natAbs.log2 < 1000000) : IntMulOk i j := by
  have b : ∀ x : Int, Builtin.Int.intBits x ≤ x.natAbs.log2 + 1 := fun x => by
    unfold Builtin.Int.intBits
    split <;> omega
  have h1 := b i
  have h2 := b j
  have e : bitsLine = 134217728 := by decide
  unfold IntMulOk
  intro z
  rw [Bool.and_eq_true] at z
  have z2 := z.2
  unfold Builtin.Int.intTooBig at z2
  have z3 := of_decide_eq_true z2
  rw [e] at z3
  omega
theorem op_mulZ : OpR X (binaryOp .Mult) (rI (fun i j => i.natAbs.log2 + j.natAbs.log2 < 1000000) fun i j => .int (i * j)) := opI fun _ _ _ _ _ _ _ hc q => mul_int q (mulZ hc)
theorem op_bin (o : BO) : OpR X (binaryOp (boOp o)) (r2 X.K (binD o)) := by
  intro pins s σ H x y v u Q I rx ry h
  obtain ⟨S, d1, d2, hs, s1, s2, q⟩ := h
  cases o with
  | add =>
    cases d1 with
    | int i =>
      cases d2 with
      | int j =>
        obtain rfl := see_int s1; obtain rfl := see_int s2
        exact op_add pins s σ H _ _ v u Q I rx ry ⟨i, j, rfl, rfl, told_int hs q⟩
      | _ => exact q.elim
    | str i =>
      cases d2 with
      | str j =>
        obtain rfl := see_str s1; obtain rfl := see_str s2
        by_cases hz : i.length + j.length ≤ 16777216
        · simp only [binD, if_pos hz] at q
          exact op_add_str pins s σ H _ _ v u Q I rx ry ⟨i, j, rfl, rfl, by rw [line_eq]; exact hz, told_str hs q⟩
        · simp only [binD, if_neg hz] at q; exact q.elim
      | _ => exact q.elim
    | lst i =>
      cases d2 with
      | lst j =>
        obtain ⟨a, vs, rfl, ha, ra⟩ := s1; obtain ⟨b, ws, rfl, hb, rb⟩ := s2
        by_cases hz : i.length + j.length ≤ 16777216
        · simp only [binD, if_pos hz] at q
          exact op_cat pins s σ H _ _ v u Q I rx ry ⟨a, b, vs, ws, rfl, rfl, ha, hb, by rw [line_eq, ra.length, rb.length]; exact hz, told_lst hs q (ra.append rb)⟩
        · simp only [binD, if_neg hz] at q; exact q.elim
      | _ => exact q.elim
    | tup i =>
      cases d2 with
      | tup j =>
        obtain ⟨a, vs, rfl, ha, ra⟩ := see_tup s1; obtain ⟨b, ws, rfl, hb, rb⟩ := see_tup s2
        by_cases hz : i ≠ [] ∧ i.length + j.length ≤ 16777216
        · simp only [binD, if_pos hz] at q
          refine op_catU pins s σ H _ _ v u Q I rx ry ⟨a, b, vs, ws, rfl, rfl, ha.sq hs, hb.sq hs, fun z => hz.1 ?_, by rw [line_eq, ra.length, rb.length]; exact hz.2, fun z => ?_, fun z => told_tup hs q (ra.append rb)⟩
          · have := ra.length; rw [z] at this; exact List.length_eq_zero_iff.mp this.symm
          · have e : j = [] := by have := rb.length; rw [z] at this; exact List.length_eq_zero_iff.mp this.symm
            subst e
            rw [List.append_nil] at q
            exact told_rep hs q rfl (.tup ha ra)
        · simp only [binD, if_neg hz] at q; exact q.elim
      | _ => exact q.elim
    | _ => exact q.elim
  | sub =>
    cases d1 with
    | int i =>
      cases d2 with
      | int j =>
        obtain rfl := see_int s1; obtain rfl := see_int s2
        exact op_sub pins s σ H _ _ v u Q I rx ry ⟨i, j, rfl, rfl, told_int hs q⟩
      | _ => exact q.elim
    | _ => exact q.elim
  | mul =>
    cases d1 with
    | int i =>
      cases d2 with
      | int j =>
        obtain rfl := see_int s1; obtain rfl := see_int s2
        by_cases hz : mulOk i j = true
        · simp only [binD, if_pos hz] at q
          exact op_mulZ pins s σ H _ _ v u Q I rx ry ⟨i, j, rfl, rfl, of_decide_eq_true hz, told_int hs q⟩
        · simp only [binD, if_neg hz] at q; exact q.elim
      | _ => exact q.elim
    | lst l =>
      cases d2 with
      | int k =>
        obtain ⟨a, vs, rfl, ha, ra⟩ := s1; obtain rfl := see_int s2
        by_cases hz : k < 4096 ∧ -4096 < k ∧ l.length ≤ 4096
        · simp only [binD, if_pos hz] at q
          refine op_rep pins s σ H _ _ v u Q I rx ry ⟨a, k, vs, rfl, rfl, ha, by omega, by omega, ?_, told_lst hs q (ra.rep _)⟩
          rw [line_eq, ra.length]
          exact Nat.le_trans (Nat.mul_le_mul hz.2.2 (show k.toNat ≤ 4096 by omega)) (by decide)
        · simp only [binD, if_neg hz] at q; exact q.elim
      | _ => exact q.elim
    | _ => exact q.elim
  | fdiv =>
    cases d1 with
    | int i =>
      cases d2 with
      | int j =>
        obtain rfl := see_int s1; obtain rfl := see_int s2
        by_cases hz : j ≠ 0 ∧ fdOk i j = true
        · simp only [binD, if_pos hz] at q
          exact op_fdivZ pins s σ H _ _ v u Q I rx ry ⟨i, j, rfl, rfl, hz, told_int hs q⟩
        · simp only [binD, if_neg hz] at q; exact q.elim
      | _ => exact q.elim
    | _ => exact q.elim
  | mod =>
    cases d1 with
    | int i =>
      cases d2 with
      | int j =>
        obtain rfl := see_int s1; obtain rfl := see_int s2
        by_cases hz : j ≠ 0
        · simp only [binD, if_pos hz] at q
          exact op_modN pins s σ H _ _ v u Q I rx ry ⟨i, j, rfl, rfl, hz, told_int hs q⟩
        · simp only [binD, if_neg hz] at q; exact q.elim
      | _ => exact q.elim
    | _ => exact q.elim
  | pow =>
    cases d1 with
    | int i =>
      cases d2 with
      | int j =>
        obtain rfl := see_int s1; obtain rfl := see_int s2
        by_cases hz : 0 ≤ j ∧ j ≤ 1000000 ∧ i.natAbs < 2 ^ 64
        · simp only [binD, if_pos hz] at q
          exact op_pow pins s σ H _ _ v u Q I rx ry ⟨i, j, rfl, rfl, hz, told_int hs q⟩
        · simp only [binD, if_neg hz] at q; exact q.elim
      | _ => exact q.elim
    | _ => exact q.elim

/-! ### comparisons -/
def coOp : CO → CmpOp
  | .eq => .Eq | .ne => .NotEq | .lt => .Lt | .le => .LtE | .gt => .Gt | .ge => .GtE | .isIn => .In | .notIn => .NotIn | .isS => .Is | .notS => .IsNot
def rc (K : PySem.W.Frag) (f : D → D → Option Bool) : R2 := fun x y H Q => ∃ S d1 d2, Sub S H ∧ See K S H x d1 ∧ See K S H y d2 ∧ match f d1 d2 with
  | some b => Q (.bl b) H
  | none => False
def KeyV (H : Hp) (y : V) : Key ⊕ List Key → Prop
  | .inl k => y = kV k
  | .inr ks => ∃ b, y = .ref b ∧ H b = some (.tup (ks.map kV))
/-- what a dict has at a key -/
def OptV (K : PySem.W.Frag) (S : Hp) : Option V → Option D → Prop
  | ov, some d => ∃ v, ov = some v ∧ Rep K S v d
  | ov, none => ov = none
theorem See.key {K : PySem.W.Frag} {S H : Hp} (hs : Sub S H) {y : V} {d : D} {k : Key ⊕ List Key} (h : See K S H y d) (e : keyOf d = some k) : KeyV H y k := by
  cases d with
  | int i => obtain rfl := see_int h; cases e; rfl
  | str i => obtain rfl := see_str h; cases e; rfl
  | tup l =>
    obtain ⟨a, vs, rfl, ha, ra⟩ := see_tup h
    simp only [keyOf] at e
    by_cases hl2 : l.length ≤ 2
    rotate_left
    · rw [if_neg hl2] at e; cases e
    rw [if_pos hl2, Option.map_eq_some_iff] at e
    obtain ⟨ks, q, rfl⟩ := e
    have ha := ha.low (by rw [ra.length]; exact hl2)
    refine ⟨a, rfl, ?_⟩
    have : ∀ {vs : List V} {l : List D} {ks : List Key}, RepL K S vs l → keyOf.keysOf l = some ks → vs = ks.map kV := by
      intro vs l
      induction l generalizing vs with
      | nil => intro ks r q; cases r; cases q; rfl
      | cons d l ih =>
        intro ks r q
        cases r with
        | cons r1 r2 =>
          cases r1 with
          | int i =>
            simp only [keyOf.keysOf, Option.map_eq_some_iff] at q
            obtain ⟨m, q, rfl⟩ := q
            rw [List.map_cons, ih r2 q]; rfl
          | str i =>
            simp only [keyOf.keysOf, Option.map_eq_some_iff] at q
            obtain ⟨m, q, rfl⟩ := q
            rw [List.map_cons, ih r2 q]; rfl
          | _ => cases q
    rw [← this ra q]
    exact hs _ _ ha
  | _ => cases e
theorem look_zip {κ : Type} [DecidableEq κ] {K : PySem.W.Frag} {S : Hp} (k : κ) : ∀ {l : List (κ × D)} {vs : List V}, RepL K S vs (l.map (·.2)) → OptV K S (valV ((l.map (·.1)).zip vs) k) (look l k)
  | [], _, .nil => rfl
  | (k', d) :: l, _, .cons (v := v) r t => by
    by_cases e : k' = k
    · have h1 : look ((k', d) :: l) k = some d := by simp [look, e]
      rw [h1]
      refine ⟨v, ?_, r⟩
      simp [valV, e]
    · have h1 : look ((k', d) :: l) k = look l k := by simp [look, List.find?_cons, e]
      have h2 : ∀ vs, valV (((k', d) :: l).map (·.1) |>.zip (v :: vs)) k = valV ((l.map (·.1)).zip vs) k := fun vs => by simp [valV, List.find?_cons, e]
      rw [h1, h2]
      exact look_zip k t
theorem See.dget {K : PySem.W.Frag} {S H : Hp} (hs : Sub S H) {x y : V} {d k : D} {o : Option D} (h : See K S H x d) (hk : See K S H y k) (e : dget d k = some o) :
    ∃ a ov, x = .ref a ∧ DGet H a y ov ∧ OptV K S ov o := by
  unfold Vm.dget at e
  cases d with
  | dk l =>
    obtain ⟨a, vs, rfl, ha, ra⟩ := h
    cases q : keyOf k with
    | none => rw [q] at e; cases e
    | some kk =>
      have hy := hk.key hs q
      cases kk with
      | inr ks => rw [q] at e; cases e
      | inl z =>
        rw [q] at e; cases e
        have hy : y = kV z := hy
        subst hy
        exact ⟨a, _, rfl, DGet.k ha, look_zip z ra⟩
  | dt l =>
    obtain ⟨a, vs, rfl, ha, ra⟩ := h
    cases q : keyOf k with
    | none => rw [q] at e; cases e
    | some kk =>
      have hy := hk.key hs q
      cases kk with
      | inl ks => rw [q] at e; cases e
      | inr z =>
        rw [q] at e; cases e
        obtain ⟨b, rfl, hb⟩ := hy
        exact ⟨a, _, rfl, DGet.t ha hb, look_zip z ra⟩
  | _ => cases e
end
end Vm

namespace Vm
open PySem PySem.Spec PyProof.Rows L2
section
variable {K : PySem.W.Frag} {S H : Hp} {Q : VK}
def ToldB (H : Hp) (Q : VK) (o : Option Bool) : Prop := match o with
  | some b => Q (.bl b) H
  | none => False
def rcmp (K : PySem.W.Frag) (f : D → D → Option Bool) : R2 := fun x y H Q => ∃ S d1 d2, Sub S H ∧ See K S H x d1 ∧ See K S H y d2 ∧ ToldB H Q (f d1 d2)
end
section
variable {X : Cx}
theorem eqD_some {a b : D} {r : Bool} (h : eqD a b = some r) : ∃ x y, py a = some x ∧ py b = some y ∧ SeqAt.shaped x = true ∧ SeqAt.shaped y = true ∧ r = PyData.eqv x y := by
  unfold eqD at h
  split at h
  · rename_i x y h1 h2
    split at h
    · rename_i hs; cases h; exact ⟨x, y, h1, h2, hs.1, hs.2, rfl⟩
    · cases h
  · cases h
theorem inV_int (k : Int) : ∀ ns : List Int, inV (.int k) (ns.map V.int) = ns.any (· == k)
  | [] => rfl
  | n :: r => by
    have := inV_int k r
    unfold inV at this ⊢
    rw [List.map_cons, List.any_cons, List.any_cons, this]; rfl
theorem inV_str (k : Str) : ∀ ns : List Str, inV (.str k) (ns.map V.str) = ns.any (· == k)
  | [] => rfl
  | n :: r => by
    have := inV_str k r
    unfold inV at this ⊢
    rw [List.map_cons, List.any_cons, List.any_cons, this]; rfl
theorem flat_ints : ∀ ns : List Int, (ns.map V.int).all flatV = true
  | [] => rfl
  | n :: r => by rw [List.map_cons, List.all_cons, flat_ints r]; rfl
theorem flat_strs : ∀ ns : List Str, (ns.map V.str).all flatV = true
  | [] => rfl
  | n :: r => by rw [List.map_cons, List.all_cons, flat_strs r]; rfl
theorem str_one {x : Str} (h : x.cps.size = 1) : x = ⟨#[x.cps.getD 0 0]⟩ := by
  obtain ⟨⟨l⟩⟩ := x
  match l, h with
  | [c], _ => rfl
theorem optV_some {K : PySem.W.Frag} {S : Hp} {ov : Option V} {o : Option D} (h : OptV K S ov o) : ov.isSome = o.isSome := by
  cases o with
  | none => rw [show ov = none from h]; rfl
  | some d => obtain ⟨v, rfl, _⟩ := h; rfl
/-- in -/
theorem op_inZ (hu : X.A.units + 100 < cLine) : OpR X (compareOp .In) (rcmp X.K inD) := by
  intro pins s σ H x y v u Q I rx ry h
  obtain ⟨S, d1, d2, hs, s1, s2, q⟩ := h
  unfold inD at q
  cases d2 with
  | str z =>
    obtain rfl := see_str s2
    cases d1 with
    | str c =>
      obtain rfl := see_str s1
      by_cases e : c.cps.size = 1
      · simp only [if_pos e] at q
        rw [str_one e] at rx
        exact op_in_sign pins s σ H _ _ v u Q I rx ry ⟨_, z, rfl, rfl, q⟩
      · simp only [if_neg e] at q; exact q.elim
    | _ => exact q.elim
  | lst l =>
    dsimp only at q
    split at q
    · rename_i px py h1 h2
      split at q
      · rename_i hsh
        exact op_inD (by omega) pins s σ H x y v u Q I rx ry ⟨px, py, s1.py hs h1, s2.py hs (by simp only [Vm.py, h2, Option.map_some]), hsh.1, hsh.2, q⟩
      · exact q.elim
    · exact q.elim
  | tup l =>
    obtain ⟨a, vs, rfl, ha, ra⟩ := see_tup s2
    cases d1 with
    | int k =>
      obtain rfl := see_int s1
      dsimp only at q
      cases h : asInts l with
      | none => rw [h] at q; exact q.elim
      | some ns =>
        rw [h] at q
        obtain rfl := ra.asInts h
        exact op_in_seq pins s σ H _ _ v u Q I rx ry ⟨a, _, rfl, .inr (ha.sq hs), rfl, flat_ints ns, by simp only [Bool.false_eq_true, if_false, inV_int]; exact q⟩
    | str k =>
      obtain rfl := see_str s1
      dsimp only at q
      cases h : asStrs l with
      | none => rw [h] at q; exact q.elim
      | some ns =>
        rw [h] at q
        obtain rfl := ra.asStrs h
        exact op_in_seq pins s σ H _ _ v u Q I rx ry ⟨a, _, rfl, .inr (ha.sq hs), rfl, flat_strs ns, by simp only [Bool.false_eq_true, if_false, inV_str]; exact q⟩
    | _ => exact q.elim
  | dk l =>
    dsimp only at q
    cases h : dget (.dk l) d1 with
    | none => rw [h] at q; exact q.elim
    | some o =>
      rw [h] at q
      obtain ⟨a, ov, rfl, g, ho⟩ := s2.dget hs s1 h
      obtain rfl : u = Value.ref a := ry
      refine d_in (by omega) I g rx fun s3 I3 => ⟨.bl ov.isSome, H, I3, rfl, ?_⟩
      rw [optV_some ho]; exact q
  | dt l =>
    dsimp only at q
    cases h : dget (.dt l) d1 with
    | none => rw [h] at q; exact q.elim
    | some o =>
      rw [h] at q
      obtain ⟨a, ov, rfl, g, ho⟩ := s2.dget hs s1 h
      obtain rfl : u = Value.ref a := ry
      refine d_in (by omega) I g rx fun s3 I3 => ⟨.bl ov.isSome, H, I3, rfl, ?_⟩
      rw [optV_some ho]; exact q
  | _ => exact q.elim
theorem map_not {o : Option Bool} {H : Hp} {Q : VK} (h : ToldB H Q (o.map not)) : ∃ b, o = some b ∧ Q (.bl (!b)) H := by
  cases o with
  | none => exact h.elim
  | some b => exact ⟨b, rfl, h⟩
theorem op_notInZ (hu : X.A.units + 100 < cLine) : OpR X (compareOp .NotIn) (rcmp X.K fun a b => (inD a b).map not) := by
  intro pins s σ H x y v u Q I rx ry h
  obtain ⟨S, d1, d2, hs, s1, s2, q⟩ := h
  obtain ⟨r, hr, q⟩ := map_not q
  unfold inD at hr
  cases d2 with
  | str z =>
    obtain rfl := see_str s2
    cases d1 with
    | str c =>
      obtain rfl := see_str s1
      by_cases e : c.cps.size = 1
      · simp only [if_pos e] at hr
        cases hr
        rw [str_one e] at rx
        exact op_notIn_sign pins s σ H _ _ v u Q I rx ry ⟨_, z, rfl, rfl, q⟩
      · simp only [if_neg e] at hr; cases hr
    | _ => cases hr
  | lst l =>
    dsimp only at hr
    split at hr
    · rename_i px py h1 h2
      split at hr
      · rename_i hsh
        cases hr
        exact op_notInD (by omega) pins s σ H x y v u Q I rx ry ⟨px, py, s1.py hs h1, s2.py hs (by simp only [Vm.py, h2, Option.map_some]), hsh.1, hsh.2, q⟩
      · cases hr
    · cases hr
  | tup l =>
    obtain ⟨a, vs, rfl, ha, ra⟩ := see_tup s2
    cases d1 with
    | int k =>
      obtain rfl := see_int s1
      dsimp only at hr
      cases h : asInts l with
      | none => rw [h] at hr; cases hr
      | some ns =>
        rw [h] at hr; cases hr
        obtain rfl := ra.asInts h
        exact op_notIn_seq pins s σ H _ _ v u Q I rx ry ⟨a, _, rfl, .inr (ha.sq hs), rfl, flat_ints ns, by simp only [if_true, inV_int]; exact q⟩
    | str k =>
      obtain rfl := see_str s1
      dsimp only at hr
      cases h : asStrs l with
      | none => rw [h] at hr; cases hr
      | some ns =>
        rw [h] at hr; cases hr
        obtain rfl := ra.asStrs h
        exact op_notIn_seq pins s σ H _ _ v u Q I rx ry ⟨a, _, rfl, .inr (ha.sq hs), rfl, flat_strs ns, by simp only [if_true, inV_str]; exact q⟩
    | _ => cases hr
  | dk l =>
    dsimp only at hr
    cases h : dget (.dk l) d1 with
    | none => rw [h] at hr; cases hr
    | some o =>
      rw [h] at hr; cases hr
      obtain ⟨a, ov, rfl, g, ho⟩ := s2.dget hs s1 h
      obtain rfl : u = Value.ref a := ry
      refine d_notIn (by omega) I g rx fun s3 I3 => ⟨.bl (!ov.isSome), H, I3, rfl, ?_⟩
      rw [optV_some ho]; exact q
  | dt l =>
    dsimp only at hr
    cases h : dget (.dt l) d1 with
    | none => rw [h] at hr; cases hr
    | some o =>
      rw [h] at hr; cases hr
      obtain ⟨a, ov, rfl, g, ho⟩ := s2.dget hs s1 h
      obtain rfl : u = Value.ref a := ry
      refine d_notIn (by omega) I g rx fun s3 I3 => ⟨.bl (!ov.isSome), H, I3, rfl, ?_⟩
      rw [optV_some ho]; exact q
  | _ => cases hr
theorem see_isNon {K : PySem.W.Frag} {S H : Hp} {x : V} {d : D} (h : See K S H x d) : decide (x = .non) = isNon d := by
  cases d with
  | non => obtain rfl := see_non h; rfl
  | bl b => obtain rfl := see_bl h; rfl
  | int b => obtain rfl := see_int h; rfl
  | str b => obtain rfl := see_str h; rfl
  | tup b => obtain ⟨_, _, rfl, _⟩ := see_tup h; rfl
  | sc b => obtain ⟨_, rfl, _⟩ := see_sc h; rfl
  | lst b => obtain ⟨_, _, rfl, _⟩ := h; rfl
  | dk b => obtain ⟨_, _, rfl, _⟩ := h; rfl
  | dt b => obtain ⟨_, _, rfl, _⟩ := h; rfl
theorem op_cmp (o : CO) (hu : X.A.units + 100 < cLine) : OpR X (compareOp (coOp o)) (rcmp X.K (cmpD o)) := by
  intro pins s σ H x y v u Q I rx ry h
  have h0 := h
  obtain ⟨S, d1, d2, hs, s1, s2, q⟩ := h
  cases o with
  | eq =>
    cases e : eqD d1 d2 with
    | none => simp only [cmpD, e] at q; exact q.elim
    | some b =>
      simp only [cmpD, e] at q
      obtain ⟨p1, p2, h1, h2, h3, h4, rfl⟩ := eqD_some e
      exact op_eqD (by omega) pins s σ H x y v u Q I rx ry ⟨p1, p2, s1.py hs h1, s2.py hs h2, h3, h4, q⟩
  | ne =>
    cases e : eqD d1 d2 with
    | none => simp only [cmpD, e] at q; exact q.elim
    | some b =>
      simp only [cmpD, e] at q
      obtain ⟨p1, p2, h1, h2, h3, h4, rfl⟩ := eqD_some e
      exact op_neD (by omega) pins s σ H x y v u Q I rx ry ⟨p1, p2, s1.py hs h1, s2.py hs h2, h3, h4, q⟩
  | lt =>
    cases d1 with
    | int i =>
      cases d2 with
      | int j =>
        obtain rfl := see_int s1; obtain rfl := see_int s2
        exact op_lt pins s σ H _ _ v u Q I rx ry ⟨i, j, rfl, rfl, q⟩
      | _ => exact q.elim
    | _ => exact q.elim
  | le =>
    cases d1 with
    | int i =>
      cases d2 with
      | int j =>
        obtain rfl := see_int s1; obtain rfl := see_int s2
        exact op_le pins s σ H _ _ v u Q I rx ry ⟨i, j, rfl, rfl, q⟩
      | _ => exact q.elim
    | _ => exact q.elim
  | gt =>
    cases d1 with
    | int i =>
      cases d2 with
      | int j =>
        obtain rfl := see_int s1; obtain rfl := see_int s2
        exact op_gt pins s σ H _ _ v u Q I rx ry ⟨i, j, rfl, rfl, q⟩
      | _ => exact q.elim
    | _ => exact q.elim
  | ge =>
    cases d1 with
    | int i =>
      cases d2 with
      | int j =>
        obtain rfl := see_int s1; obtain rfl := see_int s2
        exact op_ge pins s σ H _ _ v u Q I rx ry ⟨i, j, rfl, rfl, q⟩
      | _ => exact q.elim
    | _ => exact q.elim
  | isIn => exact op_inZ hu pins s σ H x y v u Q I rx ry h0
  | notIn => exact op_notInZ hu pins s σ H x y v u Q I rx ry h0
  | isS =>
    cases d2 with
    | non =>
      obtain rfl := see_non s2
      exact op_isN pins s σ H _ _ v u Q I rx ry ⟨rfl, by rw [see_isNon s1]; exact q⟩
    | bl y' =>
      obtain rfl := see_bl s2
      cases d1 with
      | bl x' =>
        obtain rfl := see_bl s1
        exact op_isBl pins s σ H _ _ v u Q I rx ry ⟨_, _, rfl, rfl, q⟩
      | _ => exact q.elim
    | _ => exact q.elim
  | notS =>
    cases d2 with
    | non =>
      obtain rfl := see_non s2
      refine op_notN pins s σ H _ _ v u Q I rx ry ⟨rfl, ?_⟩
      rw [see_isNon s1]; exact q
    | bl y' =>
      obtain rfl := see_bl s2
      cases d1 with
      | bl x' =>
        obtain rfl := see_bl s1
        exact op_notBl pins s σ H _ _ v u Q I rx ry ⟨_, _, rfl, rfl, q⟩
      | _ => exact q.elim
    | _ => exact q.elim

/-! ### places, slices -/
theorem RepL.atI {K : PySem.W.Frag} {S : Hp} {vs : List V} {l : List D} {i : Int} {d : D} (r : RepL K S vs l) (h : atI l i = some d) : ∃ v, L2.atI vs i = some v ∧ Rep K S v d := by
  unfold L2.atI at h ⊢
  rw [r.length]
  cases e : ixN l.length i with
  | none => rw [e] at h; cases h
  | some j =>
    rw [e] at h
    obtain ⟨v, a, b⟩ := r.get (i := j) h
    exact ⟨v, a, b⟩
theorem atI_map {α β : Type} (f : α → β) (l : List α) (i : Int) : L2.atI (l.map f) i = (L2.atI l i).map f := by
  unfold L2.atI
  rw [List.length_map]
  cases ixN l.length i with
  | none => rfl
  | some j => simp [Option.bind]
/-- an item -/
def rIdx (K : PySem.W.Frag) (f : D → D → Option D) : R2 := fun x y H Q => ∃ S d1 d2, Sub S H ∧ See K S H x d1 ∧ See K S H y d2 ∧ ∃ d, f d1 d2 = some d ∧ ∀ v, Rep K S v d → Q v H
theorem ix_Z : IxR X (rIdx X.K fun a i => match a with | .dk _ => none | .dt _ => none | _ => idxD a i) := by
  intro value slice pins s σ H x y v u Q I rx ry h hsub
  obtain ⟨S, d1, d2, hs, s1, s2, d, e, q⟩ := h
  cases d1 with
  | tup l =>
    cases d2 with
    | int k =>
      obtain ⟨a, vs, rfl, ha, ra⟩ := see_tup s1
      obtain rfl := see_int s2
      obtain ⟨w, hw, rw'⟩ := ra.atI e
      exact ix_tup value slice pins s σ H _ _ v u Q I rx ry ⟨a, vs, k, w, rfl, rfl, ha.sq hs, hw, q _ rw'⟩ hsub
    | _ => cases e
  | lst l =>
    cases d2 with
    | int k =>
      obtain ⟨a, vs, rfl, ha, ra⟩ := s1
      obtain rfl := see_int s2
      obtain ⟨w, hw, rw'⟩ := ra.atI e
      exact ix_list value slice pins s σ H _ _ v u Q I rx ry ⟨a, vs, k, w, rfl, rfl, .of ha, hw, q _ rw'⟩ hsub
    | _ => cases e
  | sc l =>
    cases d2 with
    | int k =>
      obtain ⟨a, rfl, ha⟩ := see_sc s1
      obtain rfl := see_int s2
      simp only [idxD, Option.map_eq_some_iff] at e
      obtain ⟨n, hn, rfl⟩ := e
      exact ix_list value slice pins s σ H _ _ v u Q I rx ry ⟨a, _, k, .int n, rfl, rfl, sqL_sub hs ha, by rw [atI_map, hn]; rfl, q _ (.int n)⟩ hsub
    | _ => cases e
  | str z =>
    cases d2 with
    | int k =>
      obtain rfl := see_str s1
      obtain rfl := see_int s2
      simp only [idxD] at e
      split at e
      · rename_i hz
        simp only [Option.map_eq_some_iff] at e
        obtain ⟨n, hn, rfl⟩ := e
        exact ix_str value slice pins s σ H _ _ v u Q I rx ry ⟨z, k, n, rfl, rfl, by rw [line_eq]; exact hz, hn, q _ (.str _)⟩ hsub
      · cases e
    | _ => cases e
  | _ => cases e
theorem RepL.cut {K : PySem.W.Frag} {S : Hp} {vs : List V} {l : List D} (r : RepL K S vs l) (lo hi : Option Int) : RepL K S (cutV vs lo hi) (cutL l lo hi) := by
  unfold cutV cutL
  rw [r.length]
  exact (r.drop _).take _
def rSlc (K : PySem.W.Frag) : V → Option Int → Option Int → Hp → VK → Prop := fun x lo hi H Q => ∃ S d, Sub S H ∧ See K S H x d ∧ Told K S H Q (slcD d lo hi)
theorem sl_Z : SlR X (rSlc X.K) := by
  intro pins s σ H x v vl vu lo hi sl Q I rx hsl pl pu h
  obtain ⟨S, d, hs, s1, q⟩ := h
  cases d with
  | tup l =>
    obtain ⟨a, vs, rfl, ha, ra⟩ := see_tup s1
    refine sl_tupU pins s σ H _ v vl vu lo hi sl Q I rx hsl pl pu ⟨a, vs, rfl, ha.sq hs, fun hw => ?_, fun _ => told_tup hs q (ra.cut lo hi)⟩
    rw [ra.length] at hw
    have e : cutL l lo hi = l := by
      unfold cutL
      rw [hw.1, hw.2]
      simp
    have q : Told X.K S H Q (some (.tup (cutL l lo hi))) := q
    rw [e] at q
    exact told_rep hs q rfl (.tup ha ra)
  | lst l =>
    obtain ⟨a, vs, rfl, ha, ra⟩ := s1
    exact sl_list pins s σ H _ v vl vu lo hi sl Q I rx hsl pl pu ⟨a, vs, rfl, .of ha, told_lst hs q (ra.cut lo hi)⟩
  | str z =>
    obtain rfl := see_str s1
    by_cases hz : z.length ≤ 16777216
    · simp only [slcD, if_pos hz] at q
      exact sl_str pins s σ H _ v vl vu lo hi sl Q I rx hsl pl pu ⟨z, rfl, by rw [line_eq]; exact hz, told_str hs q⟩
    · simp only [slcD, if_neg hz] at q; exact q.elim
  | _ => exact q.elim
end
end Vm

namespace Vm
open PySem PySem.Spec PyProof.Rows L2
section
variable {K : PySem.W.Frag} {S H : Hp} {Q : VK}
inductive SeeL (K : PySem.W.Frag) (S H : Hp) : List V → List D → Prop
  | nil : SeeL K S H [] []
  | cons {v : V} {d : D} {vs : List V} {ds : List D} : See K S H v d → SeeL K S H vs ds → SeeL K S H (v :: vs) (d :: ds)
theorem SeeL.one {vs : List V} {d : D} (h : SeeL K S H vs [d]) : ∃ v, vs = [v] ∧ See K S H v d := by
  cases h with | cons a b => cases b; exact ⟨_, rfl, a⟩
theorem SeeL.two {vs : List V} {d e : D} (h : SeeL K S H vs [d, e]) : ∃ v w, vs = [v, w] ∧ See K S H v d ∧ See K S H w e := by
  cases h with | cons a b => cases b with | cons c d => cases d; exact ⟨_, _, rfl, a, c⟩
theorem maxL_spec : ∀ (r : List Int) (m : Int), (maxL m r = m ∨ maxL m r ∈ r) ∧ m ≤ maxL m r ∧ ∀ y ∈ r, y ≤ maxL m r
  | [], m => ⟨.inl rfl, Int.le_refl _, fun y h => nomatch h⟩
  | a :: r, m => by
    obtain ⟨h1, h2, h3⟩ := maxL_spec r (if a > m then a else m)
    simp only [maxL]
    refine ⟨?_, ?_, fun y hy => ?_⟩
    · rcases h1 with h1 | h1
      · split at h1
        · right; rename_i hh; rw [if_pos hh, h1]; exact List.mem_cons_self
        · left; rename_i hh; rw [if_neg hh]; exact h1
      · exact .inr (List.mem_cons_of_mem _ h1)
    · split at h2 <;> rename_i hh <;> simp only [hh, if_true, if_false] <;> omega
    · rcases List.mem_cons.mp hy with rfl | hy
      · split at h2 <;> rename_i hh <;> simp only [hh, if_true, if_false] <;> omega
      · exact h3 y hy
theorem minL_spec : ∀ (r : List Int) (m : Int), (minL m r = m ∨ minL m r ∈ r) ∧ minL m r ≤ m ∧ ∀ y ∈ r, minL m r ≤ y
  | [], m => ⟨.inl rfl, Int.le_refl _, fun y h => nomatch h⟩
  | a :: r, m => by
    obtain ⟨h1, h2, h3⟩ := minL_spec r (if a < m then a else m)
    simp only [minL]
    refine ⟨?_, ?_, fun y hy => ?_⟩
    · rcases h1 with h1 | h1
      · split at h1
        · right; rename_i hh; rw [if_pos hh, h1]; exact List.mem_cons_self
        · left; rename_i hh; rw [if_neg hh]; exact h1
      · exact .inr (List.mem_cons_of_mem _ h1)
    · split at h2 <;> rename_i hh <;> simp only [hh, if_true, if_false] <;> omega
    · rcases List.mem_cons.mp hy with rfl | hy
      · split at h2 <;> rename_i hh <;> simp only [hh, if_true, if_false] <;> omega
      · exact h3 y hy
theorem maxL_only {a : Int} {r : List Int} {m : Int} (h : m ∈ a :: r) (hm : ∀ y, y ∈ a :: r → y ≤ m) : m = maxL a r := by
  obtain ⟨h1, h2, h3⟩ := maxL_spec r a
  have u : m ≤ maxL a r := by
    rcases List.mem_cons.mp h with rfl | h
    · exact h2
    · exact h3 m h
  have w : maxL a r ≤ m := by
    rcases h1 with h1 | h1
    · rw [h1]; exact hm a List.mem_cons_self
    · exact hm _ (List.mem_cons_of_mem _ h1)
  omega
theorem minL_only {a : Int} {r : List Int} {m : Int} (h : m ∈ a :: r) (hm : ∀ y, y ∈ a :: r → m ≤ y) : m = minL a r := by
  obtain ⟨h1, h2, h3⟩ := minL_spec r a
  have u : minL a r ≤ m := by
    rcases List.mem_cons.mp h with rfl | h
    · exact h2
    · exact h3 m h
  have w : m ≤ minL a r := by
    rcases h1 with h1 | h1
    · rw [h1]; exact hm a List.mem_cons_self
    · exact hm _ (List.mem_cons_of_mem _ h1)
  omega
end
section
variable {prog : Program} {w : World} {A : Around} {E : Value → Shared → Prop} {s : Shared} {l : Addr} {its : List Value} {ns : List Int} {Q : Value → Shared → Prop}
theorem max_rawT (hh : A.handled = none) (hl : s.heap.IsTuple l its.toArray) (hi : IntsAre its ns) (hne : 0 < ns.length)
    (h : ∀ h' tk M t', (∀ b o, s.heap.get? b = some o → h'.get? b = some o) → M ∈ ns → (∀ a, a ∈ ns → a ≤ M) → Q (.int M t') { s with heap := h', toks := tk }) : wpAny (model prog w) A (call (.builtin "max") [.ref l]) Q E s := by
  obtain ⟨xs, e⟩ := hi.allInts.items
  have hn : numsOf (intItems xs).toList = ns := by rw [← e]; exact hi.numsOf
  rw [nums_intItems] at hn
  subst hn
  rw [e] at hl
  have hsz : 0 < xs.size := by simpa using hne
  refine call_max_walkH (PySem.W.iter_tupleW (A := A.in1) hh hl fun s₂ e W st hfp hw hk => ?_)
  refine ⟨_, _, _, _, _, _, _, s.heap, _, rfl, W, st, hfp, by simpa [intItems] using hsz, hw, hk, fun i j vi vj s Q E _ hi hj hQ => CmpOf.ints_gt (numAt xs) (fun _ _ => intItems_at) i j vi vj s Q E hi hj hQ, fun v s' hP m => ?_⟩
  obtain ⟨h', tk, rfl, hk'⟩ := PySem.W.moved_old e rfl m
  obtain ⟨t, rfl⟩ := intItems_at (by simpa [intItems] using hP : (intItems xs)[argBest (fun i j => decide (numAt xs i > numAt xs j)) (xs.size - 1)]? = some v)
  obtain ⟨h1, h2⟩ := argBest_gt (numAt xs) (xs.size - 1)
  refine h h' tk _ t hk' ?_ fun a ha => ?_
  · rw [numAt_eq]; exact PySem.getD_mem (by rw [List.length_map, Array.length_toList]; omega)
  · obtain ⟨j, hj, rfl⟩ := mem_getD ha
    rw [List.length_map, Array.length_toList] at hj
    rw [← numAt_eq]; exact h2 j (by omega)
theorem min_rawT (hh : A.handled = none) (hl : s.heap.IsTuple l its.toArray) (hi : IntsAre its ns) (hne : 0 < ns.length)
    (h : ∀ h' tk M t', (∀ b o, s.heap.get? b = some o → h'.get? b = some o) → M ∈ ns → (∀ a, a ∈ ns → M ≤ a) → Q (.int M t') { s with heap := h', toks := tk }) : wpAny (model prog w) A (call (.builtin "min") [.ref l]) Q E s := by
  obtain ⟨xs, e⟩ := hi.allInts.items
  have hn : numsOf (intItems xs).toList = ns := by rw [← e]; exact hi.numsOf
  rw [nums_intItems] at hn
  subst hn
  rw [e] at hl
  have hsz : 0 < xs.size := by simpa using hne
  refine call_min_walkH (PySem.W.iter_tupleW (A := A.in1) hh hl fun s₂ e W st hfp hw hk => ?_)
  refine ⟨_, _, _, _, _, _, _, s.heap, _, rfl, W, st, hfp, by simpa [intItems] using hsz, hw, hk, fun i j vi vj s Q E _ hi hj hQ => CmpOf.ints_lt (numAt xs) (fun _ _ => intItems_at) i j vi vj s Q E hi hj hQ, fun v s' hP m => ?_⟩
  obtain ⟨h', tk, rfl, hk'⟩ := PySem.W.moved_old e rfl m
  obtain ⟨t, rfl⟩ := intItems_at (by simpa [intItems] using hP : (intItems xs)[argBest (fun i j => decide (numAt xs i < numAt xs j)) (xs.size - 1)]? = some v)
  obtain ⟨h1, h2⟩ := argBest_lt (numAt xs) (xs.size - 1)
  refine h h' tk _ t hk' ?_ fun a ha => ?_
  · rw [numAt_eq]; exact PySem.getD_mem (by rw [List.length_map, Array.length_toList]; omega)
  · obtain ⟨j, hj, rfl⟩ := mem_getD ha
    rw [List.length_map, Array.length_toList] at hj
    rw [← numAt_eq]; exact h2 j (by omega)
end
section
variable {X : Cx}
def rMaxT (K : PySem.W.Frag) : List V → Hp → VK → Prop := fun vs H Q => ∃ (a : Addr) (ns : List Int), vs = [V.ref a] ∧ SqT K H a (ns.map V.int) ∧ 0 < ns.length ∧ ∀ m, m ∈ ns → (∀ y, y ∈ ns → y ≤ m) → Q (.int m) H
def rMinT (K : PySem.W.Frag) : List V → Hp → VK → Prop := fun vs H Q => ∃ (a : Addr) (ns : List Int), vs = [V.ref a] ∧ SqT K H a (ns.map V.int) ∧ 0 < ns.length ∧ ∀ m, m ∈ ns → (∀ y, y ∈ ns → m ≤ y) → Q (.int m) H
theorem cr_maxT (hc : X.calm = true) : CallR X (.builtin "max") (rMaxT X.K) := by
  intro pins s σ H vs us Q I r h
  obtain ⟨a, ns, rfl, hs, hne, q⟩ := h
  obtain ⟨its, rv, hl, _⟩ := I.tuple hs
  rw [Vals.ref1 r]
  exact max_rawT (I.ok.hd hc) hl rv.ints hne fun h' tk m t' hk h1 h2 => ⟨.int _, H, I.kept hk, ⟨_, rfl⟩, q m h1 h2⟩
theorem cr_minT (hc : X.calm = true) : CallR X (.builtin "min") (rMinT X.K) := by
  intro pins s σ H vs us Q I r h
  obtain ⟨a, ns, rfl, hs, hne, q⟩ := h
  obtain ⟨its, rv, hl, _⟩ := I.tuple hs
  rw [Vals.ref1 r]
  exact min_rawT (I.ok.hd hc) hl rv.ints hne fun h' tk m t' hk h1 h2 => ⟨.int _, H, I.kept hk, ⟨_, rfl⟩, q m h1 h2⟩
end
def biVal : BI → Value
  | .len => .builtin "len" | .abs => .builtin "abs" | .int => .type "int" | .str => .type "str" | .min => .builtin "min" | .max => .builtin "max"
  | .all => .builtin "all" | .any => .builtin "any" | .tuple => .type "tuple" | .list => .type "list" | .sorted => .builtin "sorted"
def biName : BI → Str
  | .len => "len" | .abs => "abs" | .int => "int" | .str => "str" | .min => "min" | .max => "max"
  | .all => "all" | .any => "any" | .tuple => "tuple" | .list => "list" | .sorted => "sorted"
def rBi (K : PySem.W.Frag) (b : BI) : List V → Hp → VK → Prop := fun xs H Q => ∃ S ds, Sub S H ∧ SeeL K S H xs ds ∧ Told K S H Q (biD b ds)
theorem RepL.keys {K : PySem.W.Frag} {S : Hp} {β : Type} : ∀ {l : List (Key × D)} {vs : List V}, vs.length = l.length → RepL K S (((l.map (·.1)).zip vs).map fun kv => kV kv.1) (l.map fun kv => keyD kv.1)
  | [], [], _ => .nil
  | (.inl i, d) :: l, v :: vs, e => .cons (.int i) (RepL.keys (β := β) (by simpa using e))
  | (.inr i, d) :: l, v :: vs, e => .cons (.str i) (RepL.keys (β := β) (by simpa using e))
theorem told_none {K : PySem.W.Frag} {S H : Hp} {Q : VK} {p : Prop} (h : Told K S H Q none) : p := h.elim
section
variable {K : PySem.W.Frag} {S H : Hp} {Q : VK}
theorem told_some {o : Option D} (h : Told K S H Q o) : ∃ d, o = some d ∧ Told K S H Q (some d) := by
  cases o with
  | none => exact h.elim
  | some d => exact ⟨d, rfl, h⟩
theorem KVT_size {κ : Type} {l : List (κ × D)} {vs : List V} (ra : RepL K S vs (l.map (·.2))) : ((l.map (·.1)).zip vs).length = l.length := by
  have h1 := ra.length
  rw [List.length_map] at h1
  rw [List.length_zip, List.length_map, h1, Nat.min_self]
/-- the keys that are tuples, in the ground -/
def tupS (S : Hp) (H : Hp) (bs : List Addr) : Hp := fun b => if b ∈ bs ∧ S b = none then H b else S b
theorem tupS_sub (S H : Hp) (bs : List Addr) : Sub S (tupS S H bs) := fun b o q => by
  unfold tupS
  rw [if_neg (by rw [q]; simp)]; exact q
theorem tupS_le {bs : List Addr} (hs : Sub S H) : Sub (tupS S H bs) H := fun b o q => by
  unfold tupS at q
  split at q
  · exact q
  · exact hs b o q
theorem keyD_rep {S : Hp} : ∀ k : Key, Rep K S (kV k) (keyD k)
  | .inl i => .int i
  | .inr i => .str i
theorem keyDs_rep {S : Hp} : ∀ k : List Key, RepL K S (k.map kV) (k.map keyD)
  | [] => .nil
  | a :: r => .cons (keyD_rep a) (keyDs_rep r)
theorem keysT {l : List (List Key × D)} {vs : List V} {bs : List Addr} (hl : vs.length = l.length) (hs : Sub S H) (k : IsKeys H ((l.map (·.1)).zip vs) bs) (h2 : ∀ kv ∈ l, kv.1.length ≤ 2) :
    RepL K (tupS S H bs) (bs.map V.ref) (l.map fun kv => .tup (kv.1.map keyD)) ∧ ∀ b o, tupS S H bs b = some o → S b = some o ∨ ¬ Mut (some o) := by
  have key : ∀ {b xs}, b ∈ bs → H b = some (.tup xs) → tupS S H bs b = some (.tup xs) := fun {b xs} hb e => by
    unfold tupS
    by_cases z : S b = none
    · rw [if_pos ⟨hb, z⟩]; exact e
    · rw [if_neg (fun q => z q.2)]
      cases q : S b with
      | none => exact absurd q z
      | some o => rw [hs b o q] at e; exact e
  have all : ∀ {l : List (List Key × D)} {vs : List V} {cs : List Addr}, vs.length = l.length → IsKeys H ((l.map (·.1)).zip vs) cs → (∀ c ∈ cs, c ∈ bs) → (∀ kv ∈ l, kv.1.length ≤ 2) →
      RepL K (tupS S H bs) (cs.map V.ref) (l.map fun kv => .tup (kv.1.map keyD)) ∧ ∀ c ∈ cs, ∃ xs, H c = some (.tup xs) := by
    intro l
    induction l with
    | nil => intro vs cs e k _ _; cases k; exact ⟨.nil, fun c h => nomatch h⟩
    | cons p l ih =>
      intro vs cs e k sub h2
      match vs, e with
      | v :: vs, e =>
        cases k with
        | cons h t =>
          obtain ⟨r1, r2⟩ := ih (by simpa using e) t (fun c hc => sub c (List.mem_cons_of_mem _ hc)) (fun kv hkv => h2 kv (List.mem_cons_of_mem _ hkv))
          refine ⟨.cons (.tup (.two (key (sub _ List.mem_cons_self) h) (by rw [List.length_map]; exact h2 p List.mem_cons_self)) (keyDs_rep _)) r1, fun c hc => ?_⟩
          rcases List.mem_cons.mp hc with rfl | hc
          · exact ⟨_, h⟩
          · exact r2 c hc
  obtain ⟨r1, r2⟩ := all hl k (fun c h => h) h2
  refine ⟨r1, fun b o q => ?_⟩
  unfold tupS at q
  split at q
  · rename_i z
    obtain ⟨xs, e⟩ := r2 b z.1
    rw [e] at q; cases q
    exact .inr fun m => m
  · exact .inl q
end
section
variable {X : Cx}
theorem call_len_Z : CallR X (.builtin "len") (rBi X.K .len) := by
  intro pins s σ H xs us Q I r h
  obtain ⟨S, ds, hs, hl, q⟩ := h
  obtain ⟨d, e, q⟩ := told_some q
  replace e : biLen ds = some d := e
  unfold biLen at e
  split at e
  · split at e
    · rename_i z hz
      cases e
      obtain ⟨v, rfl, s1⟩ := hl.one
      obtain rfl := see_str s1
      exact call_len pins s σ H _ us Q I r ⟨_, _, rfl, ⟨by rw [line_eq]; exact hz, rfl⟩, told_int hs q⟩
    · cases e
  · cases e
    obtain ⟨v, rfl, s1⟩ := hl.one
    obtain ⟨a, vs, rfl, ha, ra⟩ := see_tup s1
    have q := told_int hs q
    rw [← ra.length] at q
    exact call_len pins s σ H _ us Q I r ⟨_, _, rfl, .inr ⟨vs, ha.sq hs, rfl⟩, q⟩
  · cases e
    obtain ⟨v, rfl, s1⟩ := hl.one
    obtain ⟨a, vs, rfl, ha, ra⟩ := s1
    have q := told_int hs q
    rw [← ra.length] at q
    exact call_len pins s σ H _ us Q I r ⟨_, _, rfl, .inl ⟨vs, .of ha, rfl⟩, q⟩
  · cases e
    obtain ⟨v, rfl, s1⟩ := hl.one
    obtain ⟨a, rfl, ha⟩ := see_sc s1
    exact call_len pins s σ H _ us Q I r ⟨_, _, rfl, .inl ⟨_, sqL_sub hs ha, rfl⟩, by rw [List.length_map]; exact told_int hs q⟩
  · rename_i l
    cases e
    obtain ⟨v, rfl, s1⟩ := hl.one
    obtain ⟨a, vs, rfl, ha, ra⟩ := s1
    obtain ⟨u, rfl, rx⟩ := vals1 r
    obtain rfl : u = Value.ref a := rx
    exact d_len I (.inl ha) fun t s' I' => ⟨.int l.length, H, I', ⟨t, by rw [KVT_size ra]⟩, told_int hs q⟩
  · cases e
theorem call_abs_Z : CallR X (.builtin "abs") (rBi X.K .abs) := by
  intro pins s σ H xs us Q I r h
  obtain ⟨S, ds, hs, hl, q⟩ := h
  obtain ⟨d, e, q⟩ := told_some q
  replace e : biAbs ds = some d := e
  unfold biAbs at e
  split at e
  · cases e
    obtain ⟨v, rfl, s1⟩ := hl.one
    obtain rfl := see_int s1
    exact call_abs pins s σ H _ us Q I r ⟨_, rfl, told_int hs q⟩
  · cases e
theorem call_int_Z : CallR X (.type "int") (rBi X.K .int) := by
  intro pins s σ H xs us Q I r h
  obtain ⟨S, ds, hs, hl, q⟩ := h
  obtain ⟨d, e, q⟩ := told_some q
  replace e : biInt ds = some d := e
  unfold biInt at e
  split at e
  · cases e
    obtain ⟨v, rfl, s1⟩ := hl.one
    obtain rfl := see_int s1
    exact call_int1 pins s σ H _ us Q I r (.inl ⟨_, rfl, told_int hs q⟩)
  · cases e
    obtain ⟨v, rfl, s1⟩ := hl.one
    obtain rfl := see_bl s1
    exact call_int1 pins s σ H _ us Q I r (.inr ⟨_, rfl, told_int hs q⟩)
  · split at e
    · rename_i z hz
      obtain ⟨v, rfl, s1⟩ := hl.one
      obtain rfl := see_str s1
      simp only [Option.map_eq_some_iff] at e
      obtain ⟨n, hn, rfl⟩ := e
      exact call_int_str pins s σ H _ us Q I r ⟨z, n, rfl, hn, hz, told_int hs q⟩
    · cases e
  · cases e
theorem call_str_Z : CallR X (.type "str") (rBi X.K .str) := by
  intro pins s σ H xs us Q I r h
  obtain ⟨S, ds, hs, hl, q⟩ := h
  obtain ⟨d, e, q⟩ := told_some q
  replace e : biStr ds = some d := e
  unfold biStr at e
  split at e
  · split at e
    · rename_i i hz
      cases e
      obtain ⟨v, rfl, s1⟩ := hl.one
      obtain rfl := see_int s1
      exact call_str_int pins s σ H _ us Q I r ⟨i, rfl, hz, told_str hs q⟩
    · cases e
  · cases e
theorem call_max_Z (hc : X.calm = true) : CallR X (.builtin "max") (rBi X.K .max) := by
  intro pins s σ H xs us Q I r h
  obtain ⟨S, ds, hs, hl, q⟩ := h
  obtain ⟨d, e, q⟩ := told_some q
  replace e : biMax ds = some d := e
  unfold biMax at e
  split at e
  · cases e
    obtain ⟨v, w, rfl, s1, s2⟩ := hl.two
    obtain rfl := see_int s1; obtain rfl := see_int s2
    exact call_max2 hc pins s σ H _ us Q I r ⟨_, _, rfl, told_int hs q⟩
  · rename_i l
    obtain ⟨v, rfl, s1⟩ := hl.one
    obtain ⟨a, vs, rfl, ha, ra⟩ := s1
    cases e2 : asInts l with
    | none => rw [e2] at e; cases e
    | some ns =>
      rw [e2] at e
      obtain rfl := ra.asInts e2
      cases ns with
      | nil => cases e
      | cons n ns => cases e; exact cr_max hc pins s σ H _ us Q I r ⟨a, _, rfl, .of ha, Nat.zero_lt_succ _, fun m hm hle => by rw [maxL_only hm hle]; exact told_int hs q⟩
  · rename_i l
    obtain ⟨v, rfl, s1⟩ := hl.one
    obtain ⟨a, vs, rfl, ha, ra⟩ := see_tup s1
    cases e2 : asInts l with
    | none => rw [e2] at e; cases e
    | some ns =>
      rw [e2] at e
      obtain rfl := ra.asInts e2
      cases ns with
      | nil => cases e
      | cons n ns => cases e; exact cr_maxT hc pins s σ H _ us Q I r ⟨a, _, rfl, ha.sq hs, Nat.zero_lt_succ _, fun m hm hle => by rw [maxL_only hm hle]; exact told_int hs q⟩
  · cases e
theorem call_min_Z (hc : X.calm = true) : CallR X (.builtin "min") (rBi X.K .min) := by
  intro pins s σ H xs us Q I r h
  obtain ⟨S, ds, hs, hl, q⟩ := h
  obtain ⟨d, e, q⟩ := told_some q
  replace e : biMin ds = some d := e
  unfold biMin at e
  split at e
  · cases e
    obtain ⟨v, w, rfl, s1, s2⟩ := hl.two
    obtain rfl := see_int s1; obtain rfl := see_int s2
    exact call_min2 hc pins s σ H _ us Q I r ⟨_, _, rfl, told_int hs q⟩
  · rename_i l
    obtain ⟨v, rfl, s1⟩ := hl.one
    obtain ⟨a, vs, rfl, ha, ra⟩ := s1
    cases e2 : asInts l with
    | none => rw [e2] at e; cases e
    | some ns =>
      rw [e2] at e
      obtain rfl := ra.asInts e2
      cases ns with
      | nil => cases e
      | cons n ns => cases e; exact cr_min hc pins s σ H _ us Q I r ⟨a, _, rfl, .of ha, Nat.zero_lt_succ _, fun m hm hle => by rw [minL_only hm hle]; exact told_int hs q⟩
  · rename_i l
    obtain ⟨v, rfl, s1⟩ := hl.one
    obtain ⟨a, vs, rfl, ha, ra⟩ := see_tup s1
    cases e2 : asInts l with
    | none => rw [e2] at e; cases e
    | some ns =>
      rw [e2] at e
      obtain rfl := ra.asInts e2
      cases ns with
      | nil => cases e
      | cons n ns => cases e; exact cr_minT hc pins s σ H _ us Q I r ⟨a, _, rfl, ha.sq hs, Nat.zero_lt_succ _, fun m hm hle => by rw [minL_only hm hle]; exact told_int hs q⟩
  · cases e
theorem call_all_Z (hc : X.calm = true) : CallR X (.builtin "all") (rBi X.K .all) := by
  intro pins s σ H xs us Q I r h
  obtain ⟨S, ds, hs, hl, q⟩ := h
  obtain ⟨d, e, q⟩ := told_some q
  replace e : biAll ds = some d := e
  unfold biAll at e
  split at e
  · obtain ⟨v, rfl, s1⟩ := hl.one
    obtain ⟨a, vs, rfl, ha, ra⟩ := s1
    simp only [Option.map_eq_some_iff] at e
    obtain ⟨bs, h1, rfl⟩ := e
    obtain rfl := ra.asBools h1
    exact cr_all hc pins s σ H _ us Q I r ⟨a, bs, rfl, .of ha, told_bl hs q⟩
  · cases e
theorem call_any_Z (hc : X.calm = true) : CallR X (.builtin "any") (rBi X.K .any) := by
  intro pins s σ H xs us Q I r h
  obtain ⟨S, ds, hs, hl, q⟩ := h
  obtain ⟨d, e, q⟩ := told_some q
  replace e : biAny ds = some d := e
  unfold biAny at e
  split at e
  · obtain ⟨v, rfl, s1⟩ := hl.one
    obtain ⟨a, vs, rfl, ha, ra⟩ := s1
    simp only [Option.map_eq_some_iff] at e
    obtain ⟨bs, h1, rfl⟩ := e
    obtain rfl := ra.asBools h1
    exact cr_any hc pins s σ H _ us Q I r ⟨a, bs, rfl, .of ha, told_bl hs q⟩
  · cases e
theorem call_tup_Z : CallR X (.type "tuple") (rBi X.K .tuple) := by
  intro pins s σ H xs us Q I r h
  obtain ⟨S, ds, hs, hl, q⟩ := h
  obtain ⟨d, e, q⟩ := told_some q
  replace e : biTup ds = some d := e
  unfold biTup at e
  split at e
  · cases e
    obtain ⟨v, rfl, s1⟩ := hl.one
    obtain ⟨a, vs, rfl, ha, ra⟩ := see_tup s1
    exact call_tuple_ofU pins s σ H _ us Q I r ⟨a, vs, rfl, .inr ⟨ha.sq hs, told_rep hs q rfl (.tup ha ra)⟩⟩
  · cases e
    obtain ⟨v, rfl, s1⟩ := hl.one
    obtain ⟨a, vs, rfl, ha, ra⟩ := s1
    exact call_tuple_ofU pins s σ H _ us Q I r ⟨a, vs, rfl, .inl ⟨.of ha, told_tup hs q ra⟩⟩
  · cases e
theorem call_lst_Z (hc : X.calm = true) : CallR X (.type "list") (rBi X.K .list) := by
  intro pins s σ H xs us Q I r h
  obtain ⟨S, ds, hs, hl, q⟩ := h
  obtain ⟨d, e, q⟩ := told_some q
  replace e : biLst ds = some d := e
  unfold biLst at e
  split at e
  · cases e
    obtain ⟨v, rfl, s1⟩ := hl.one
    obtain ⟨a, vs, rfl, ha, ra⟩ := see_tup s1
    exact call_list_of pins s σ H _ us Q I r ⟨a, vs, rfl, .inr (ha.sq hs), told_lst hs q ra⟩
  · cases e
    obtain ⟨v, rfl, s1⟩ := hl.one
    obtain ⟨a, vs, rfl, ha, ra⟩ := s1
    exact call_list_of pins s σ H _ us Q I r ⟨a, vs, rfl, .inl (.of ha), told_lst hs q ra⟩
  · cases e
    obtain ⟨v, rfl, s1⟩ := hl.one
    obtain ⟨a, vs, rfl, ha, ra⟩ := s1
    exact call_list_dK hc pins s σ H _ us Q I r ⟨a, _, rfl, ha, told_lst hs q (RepL.keys (β := Nat) (by have := ra.length; rw [List.length_map] at this; exact this))⟩
  · rename_i l
    split at e
    rotate_left
    · cases e
    rename_i h2
    cases e
    obtain ⟨v, rfl, s1⟩ := hl.one
    obtain ⟨a, vs, rfl, ha, ra⟩ := s1
    refine call_list_dT hc pins s σ H _ us Q I r ⟨a, _, rfl, .inl ha, fun p bs n k => ?_⟩
    obtain ⟨k1, k2⟩ := keysT (K := X.K) (by have := ra.length; rw [List.length_map] at this; exact this) hs k (fun kv hkv => of_decide_eq_true (List.all_eq_true.mp h2 kv hkv))
    exact q _ _ ⟨_, tupS_sub S H bs, tupS_le hs, k2, .inr ⟨p, _, rfl, n, rfl, (fun _ => ⟨_, upd_same, k1⟩), (fun z => nomatch z)⟩⟩
  · cases e
theorem perm_sorted : ∀ {a b : List Int}, a.Perm b → a.Pairwise (· ≤ ·) → b.Pairwise (· ≤ ·) → a = b
  | [], b, h, _, _ => (List.Perm.nil_eq h)
  | x :: r, b, h, ha, hb => by
    cases b with
    | nil => exact absurd h.length_eq (by simp)
    | cons y s =>
      have ha' := List.pairwise_cons.mp ha
      have hb' := List.pairwise_cons.mp hb
      have hx : x ∈ y :: s := h.subset List.mem_cons_self
      have hy : y ∈ x :: r := h.symm.subset List.mem_cons_self
      have h1 : x ≤ y := by
        rcases List.mem_cons.mp hy with z | z
        · omega
        · exact ha'.1 y z
      have h2 : y ≤ x := by
        rcases List.mem_cons.mp hx with z | z
        · omega
        · exact hb'.1 x z
      have e : x = y := by omega
      subst e
      rw [perm_sorted ((List.perm_cons x).mp h) ha'.2 hb'.2]
theorem sort_ok (l : List Int) : (l.mergeSort (fun a b => decide (a ≤ b))).Perm l ∧ (l.mergeSort (fun a b => decide (a ≤ b))).Pairwise (· ≤ ·) := by
  refine ⟨List.mergeSort_perm l _, ?_⟩
  have := List.pairwise_mergeSort (le := fun a b : Int => decide (a ≤ b)) (fun a b c h1 h2 => by simp at *; omega) (fun a b => by simp; omega) l
  exact this.imp fun h => by simpa using h
end
end Vm

/-! VmF2: sorted tuples of whole numbers, len(set(..)), max and min with default=, index. -/
namespace Vm
open PySem PySem.Spec PyProof.Rows L2

/-! ### tuples of whole numbers, in their order -/
theorem lexB_irrefl : ∀ a : List Int, lexB a a = false
  | [] => rfl
  | x :: a => by unfold lexB; rw [if_pos rfl]; exact lexB_irrefl a
theorem lexB_asym : ∀ {a b : List Int}, lexB a b = true → lexB b a = false
  | [], [], h => by cases h
  | [], _ :: _, _ => rfl
  | _ :: _, [], h => by cases h
  | x :: a, y :: b, h => by
    unfold lexB at h ⊢
    by_cases e : x = y
    · rw [if_pos e] at h; rw [if_pos e.symm]; exact lexB_asym h
    · rw [if_neg e] at h; rw [if_neg (fun z => e z.symm)]
      have := of_decide_eq_true h
      exact decide_eq_false (by omega)
theorem lexB_tr : ∀ {a b c : List Int}, lexB b a = false → lexB c b = false → lexB c a = false
  | [], _, [], _, _ => rfl
  | [], [], _ :: _, _, _ => rfl
  | [], _ :: _, _ :: _, _, _ => rfl
  | _ :: _, [], _, h, _ => by cases h
  | _ :: _, _ :: _, [], _, h => by cases h
  | x :: a, y :: b, z :: c, h1, h2 => by
    unfold lexB at h1 h2 ⊢
    by_cases e : y = x
    · subst e
      rw [if_pos rfl] at h1
      by_cases f : z = y
      · rw [if_pos f] at h2 ⊢; exact lexB_tr h1 h2
      · rw [if_neg f] at h2 ⊢; exact h2
    · rw [if_neg e] at h1
      have h1 := of_decide_eq_false h1
      by_cases f : z = y
      · subst f; rw [if_neg e]; exact decide_eq_false h1
      · rw [if_neg f] at h2
        have h2 := of_decide_eq_false h2
        rw [if_neg (by omega)]; exact decide_eq_false (by omega)
theorem lexB_eq : ∀ {a b : List Int}, lexB a b = false → lexB b a = false → a = b
  | [], [], _, _ => rfl
  | [], _ :: _, h, _ => by cases h
  | _ :: _, [], _, h => by cases h
  | x :: a, y :: b, h1, h2 => by
    unfold lexB at h1 h2
    by_cases e : x = y
    · subst e
      rw [if_pos rfl] at h1 h2
      rw [lexB_eq h1 h2]
    · rw [if_neg e] at h1; rw [if_neg (fun z => e z.symm)] at h2
      have h1 := of_decide_eq_false h1
      have h2 := of_decide_eq_false h2
      omega
theorem lexLe_trans {a b c : List Int} (h1 : lexLe a b = true) (h2 : lexLe b c = true) : lexLe a c = true := by
  unfold lexLe at *
  simp only [Bool.not_eq_true'] at *
  exact lexB_tr h1 h2
theorem lexLe_total (a b : List Int) : (lexLe a b || lexLe b a) = true := by
  unfold lexLe
  cases h : lexB a b with
  | false => simp
  | true => rw [lexB_asym h]; simp
theorem tsort_ok (l : List (List Int)) : (l.mergeSort lexLe).Perm l ∧ (l.mergeSort lexLe).Pairwise (fun a b => lexB b a = false) := by
  refine ⟨List.mergeSort_perm l _, ?_⟩
  have := List.pairwise_mergeSort (le := lexLe) (fun a b c h1 h2 => lexLe_trans h1 h2) lexLe_total l
  exact this.imp fun h => by unfold lexLe at h; simpa using h
theorem perm_lex : ∀ {a b : List (List Int)}, a.Perm b → a.Pairwise (fun a b => lexB b a = false) → b.Pairwise (fun a b => lexB b a = false) → a = b
  | [], b, h, _, _ => (List.Perm.nil_eq h)
  | x :: r, b, h, ha, hb => by
    cases b with
    | nil => exact absurd h.length_eq (by simp)
    | cons y s =>
      have ha' := List.pairwise_cons.mp ha
      have hb' := List.pairwise_cons.mp hb
      have hx : x ∈ y :: s := h.subset List.mem_cons_self
      have hy : y ∈ x :: r := h.symm.subset List.mem_cons_self
      have h1 : lexB y x = false := by
        rcases List.mem_cons.mp hy with z | z
        · rw [z]; exact lexB_irrefl x
        · exact ha'.1 y z
      have h2 : lexB x y = false := by
        rcases List.mem_cons.mp hx with z | z
        · rw [z]; exact lexB_irrefl y
        · exact hb'.1 x z
      have e : x = y := lexB_eq h2 h1
      subst e
      rw [perm_lex ((List.perm_cons x).mp h) ha'.2 hb'.2]
/-- v is a tuple of these ints in the heap -/
def IsTup (h : Heap) (v : Value) (ns : List Int) : Prop := ∃ a o its n, v = .ref a ∧ h.get? a = some o ∧ o.cls = .type "tuple" ∧ o.data = .seq its n ∧ IntsAre its.toList ns
theorem IsTup.keeps {h h' : Heap} {v : Value} {ns : List Int} (p : IsTup h v ns) (k : ∀ b o, h.get? b = some o → o.cls = .type "tuple" → h'.get? b = some o) : IsTup h' v ns := by
  obtain ⟨a, o, t, n, e, ho, hc, hd, hi⟩ := p
  exact ⟨a, o, t, n, e, k _ _ ho hc, hc, hd, hi⟩
section
variable {prog : Program} {w : World} {A : Around} {E : Value → Shared → Prop} {s : Shared}
theorem kat_ints {fin : Bool} : ∀ {us vs : List Value} {ns ms : List Int} (i : Nat) (r : Bool), IntsAre us ns → IntsAre vs ms → (fin = decide (ns.length < ms.length)) → lexB ns ms = r →
    PySem.W.KatLex prog w A true fin (fun r' s' => s' = s ∧ r' = r) (us.zip vs) i s
  | [], _, _, ms, i, r, .nil, hv, hf, hr => by
    refine PySem.W.kat_nil ⟨rfl, ?_⟩
    rw [hf, ← hr]
    cases ms <;> rfl
  | _, [], ns, _, i, r, hu, .nil, hf, hr => by
    rw [List.zip_nil_right]
    refine PySem.W.kat_nil ⟨rfl, ?_⟩
    rw [hf, ← hr]
    cases ns <;> rfl
  | _, _, _, _, i, r, .cons (ns := ns) x t hu, .cons (ns := ms) y u hv, hf, hr => by
    unfold lexB at hr
    refine PySem.W.kat_cons (SeqAt.EqAt.int_int x t y u prog w _ _ ?_)
    refine PySem.W.kat_go (fun e1 => ?_) (fun e1 => ?_)
    · have ex : x = y := by simpa using e1
      rw [if_pos ex] at hr
      refine PySem.W.kat_yes (kat_ints (i + 1) r hu hv ?_ hr)
      rw [hf, List.length_cons, List.length_cons]
      by_cases z : ns.length < ms.length
      · rw [decide_eq_true z, decide_eq_true (by omega)]
      · rw [decide_eq_false z, decide_eq_false (by omega)]
    · have ex : ¬ x = y := by simpa using e1
      rw [if_neg ex] at hr
      exact PySem.W.kat_no (TS.oneLt_ints _ ⟨rfl, hr⟩)
open SrtO in
theorem tup_cmp {vs : List Value} {k : Value → List Int} (hp : ∀ v ∈ vs, IsTup s.heap v (k v)) : Cmp prog w A s (tuples' true) (fun p => p.1 ∈ vs) (lt2 fun v u => lexB (k v) (k u)) := by
  intro p q hm hm'
  have h1 := hp _ hm
  have h2 := hp _ hm'
  show wpAny (model prog w) A (keyLt' (tuples' true) p.1 q.1) (fun r s' => s' = s ∧ r = lexB (k p.1) (k q.1)) (fun _ _ => False) s
  obtain ⟨a, o, t, n, e, ho, hc, hd, hi⟩ := h1
  obtain ⟨a', o', t', n', e', ho', hc', hd', hi'⟩ := h2
  generalize k p.1 = ns at hi ⊢
  generalize k q.1 = ms at hi' ⊢
  rw [e, e']
  refine PySem.W.kat_lt ho hd ho' hd' ?_
  refine kat_ints 0 _ hi hi' ?_ rfl
  have e1 : t.size = ns.length := by rw [← hi.length]; simp
  have e2 : t'.size = ms.length := by rw [← hi'.length]; simp
  rw [e1, e2]
theorem tup_firsts {h : Heap} {k : Value → List Int} : ∀ {vs : List Value}, (∀ v ∈ vs, IsTup h v (k v) ∧ k v ≠ []) → ∃ fs : List Value, PySem.W.KatTups h vs fs ∧ fs.length = vs.length ∧ ∀ f ∈ fs, ∃ x t, f = Value.int x t
  | [], _ => ⟨[], PySem.W.KatTups.nil, rfl, fun _ hm => by simp at hm⟩
  | v :: vs, hp => by
    obtain ⟨fs, h1, h2, h3⟩ := tup_firsts (vs := vs) fun v' hm => hp v' (List.mem_cons_of_mem _ hm)
    obtain ⟨⟨a, o, t, n, e, ho, hc, hd, hi⟩, hne⟩ := hp v List.mem_cons_self
    obtain ⟨x, tk, hx⟩ : ∃ x tk, t[0]? = some (Value.int x tk) := by
      generalize k v = ns at hi hne
      obtain ⟨l⟩ := t
      cases hi with
      | nil => exact absurd rfl hne
      | cons x tk r => exact ⟨x, tk, rfl⟩
    subst e
    refine ⟨.int x tk :: fs, PySem.W.KatTups.cons ho hc hd hx h1, by rw [List.length_cons, List.length_cons, h2], fun f hm => ?_⟩
    rcases List.mem_cons.mp hm with rfl | hm
    · exact ⟨x, tk, rfl⟩
    · exact h3 f hm
open SrtO in
theorem tup_sortableO {a : Addr} {vs : List Value} {k : Value → List Int} (h0 : 0 < vs.length) (hp : ∀ v ∈ vs, IsTup s.heap v (k v) ∧ k v ≠ []) (ha : ∀ o, s.heap.get? a = some o → o.cls ≠ .type "tuple") : SortableO prog w A s a vs fun v u => lexB (k v) (k u) := by
  intro h' keep
  have hp' : ∀ v ∈ vs, IsTup h' v (k v) ∧ k v ≠ [] := fun v hm => ⟨(hp v hm).1.keeps fun b o e c => keep b o (fun z => by subst z; exact ha o e c) e, (hp v hm).2⟩
  obtain ⟨fs, h1, h2, h3⟩ := tup_firsts hp'
  refine ⟨tuples' true, fun Q E hq => ?_, tup_cmp fun v hm => (hp' v hm).1⟩
  refine PySem.W.kat_kind (T := .type "int") h1 (by omega) (fun f hm => ?_) (by rfl) ?_
  · obtain ⟨x, t, rfl⟩ := h3 f hm
    exact PySem.W.Looks.now
  · have e : (Value.type "int" != Value.type "tuple") = true := by first | decide +kernel | rfl | decide
    rw [e]
    exact hq
open SrtO in
theorem sorted_tupsO {l : Addr} {vs : List Value} {k : Value → List Int} {Q : Value → Shared → Prop} (hl : s.heap.IsList l vs.toArray) (hz : vs.length ≤ sizeLine) (hp : ∀ v ∈ vs, IsTup s.heap v (k v) ∧ k v ≠ [])
    (h : ∀ (h' : Heap) (d : Addr) (out : List Value), out.Pairwise (fun v u => lexB (k u) (k v) = false) → out.Perm vs → (∀ b o, s.heap.get? b = some o → h'.get? b = some o) → s.heap.objs.size ≤ d → (∃ n, h'.get? d = some (seqObj "list" out.toArray n)) → Q (.ref d) { s with heap := h' }) :
    wpAny (model prog w) A (call (.builtin "sorted") [.ref l]) Q E s := by
  have sw : Swo fun v u => lexB (k v) (k u) := ⟨fun x y h => lexB_asym h, fun x y z h1 h2 => lexB_tr h1 h2⟩
  refine sorted_ord sw hl hz (fun h2 h₁ a ha kk => ?_) fun out hs hb => ?_
  · refine tup_sortableO (s := { s with heap := h₁ }) (by omega) (fun v hm => ⟨(hp v hm).1.keeps fun b o e _ => (kk b o e).2, (hp v hm).2⟩) fun o e => ?_
    have e' : some o = some (seqObj "list" vs.toArray 0) := e.symm.trans ha
    cases e'
    intro c
    exact absurd (Value.type.inj c) (by decide)
  · exact h _ _ out hs hb.perm (fun b o e => sortedAll_old e) (Nat.le_succ _) (sortedAll_at s.heap vs out.toArray)
end
section
variable {X : Cx}
/-- sorted(xs), xs a list of tuples of ints -/
def rSortTups (K : PySem.W.Frag) : List V → Hp → VK → Prop := fun vs H Q => ∃ (a : Addr) (xs : List V) (k : V → List Int), vs = [V.ref a] ∧ SqL K H a xs ∧ (∀ x ∈ xs, k x ≠ [] ∧ ∃ t, x = V.ref t ∧ SqT K H t ((k x).map .int)) ∧
  ∀ ys p, ys.Pairwise (fun x y => lexB (k y) (k x) = false) → ys.Perm xs → H p = none → Q (.ref p) (upd H p (.lst ys))
open SrtO in
theorem cr_sortTups : CallR X (.builtin "sorted") (rSortTups X.K) := by
  intro pins s σ H vs us Q I r h
  obtain ⟨a, xs, k, rfl, hs, hx, q⟩ := h
  obtain ⟨its, rv, hl, hz⟩ := I.list hs
  obtain ⟨u, rfl, ru⟩ := vals1 r
  obtain rfl : u = Value.ref a := ru
  obtain ⟨e1, e2⟩ := refs_back rv fun x m => by
    obtain ⟨_, t, e, _⟩ := hx x m
    exact ⟨t, e⟩
  refine sorted_tupsO (k := fun u => k (backV u)) hl.isList (by rw [← rv.length]; exact hz) (fun v hv => ?_) fun h' d out h1 h2 kp hd hn => ?_
  · obtain ⟨t, rfl⟩ := e2 v hv
    have hm : V.ref t ∈ xs := by rw [e1]; exact List.mem_map.mpr ⟨_, hv, rfl⟩
    obtain ⟨hne, t', e, ht⟩ := hx _ hm
    cases e
    obtain ⟨its2, r2, ⟨o, ho, hc, n, hd⟩, _⟩ := I.tuple ht
    have hi2 := r2.ints
    exact ⟨⟨t, o, its2.toArray, n, rfl, ho, hc, hd, (show IntsAre its2.toArray.toList (k (V.ref t)) by simpa using hi2)⟩, hne⟩
  · have h3 : ∀ u ∈ out, ∃ a, u = Value.ref a := fun u hu => e2 u (h2.mem_iff.mp hu)
    obtain ⟨n, hn⟩ := hn
    have hb : (out.map backV).Perm xs := by rw [e1]; exact h2.map backV
    refine ⟨.ref d, upd H d (.lst (out.map backV)), I.laid (t' := s.toks) kp hd ⟨?_, out, n, vals_back h3, hn⟩, rfl, q _ d (List.pairwise_map.mpr h1) hb (I.hok.fresh hd)⟩
    rw [hb.length_eq]
    exact hz
end
/-! ### what lies as tuples of ints -/
section
variable {K : PySem.W.Frag} {S H : Hp} {Q : VK}
theorem rep_tup_ints {v : V} {l : List D} {ns : List Int} (r : Rep K S v (.tup l)) (e : asInts l = some ns) : ∃ t, v = V.ref t ∧ TupAt S t (ns.map .int) := by
  cases r with
  | tup ha ra =>
    obtain rfl := ra.asInts e
    exact ⟨_, rfl, ha⟩
/-- a list of such: each one's ints -/
inductive TupsAt (S : Hp) : List V → List (List Int) → Prop
  | nil : TupsAt S [] []
  | cons {t : Addr} {ns : List Int} {vs : List V} {ts : List (List Int)} : ns ≠ [] → TupAt S t (ns.map .int) → TupsAt S vs ts → TupsAt S (V.ref t :: vs) (ns :: ts)
theorem tups_at : ∀ {vs : List V} {l : List D} {ts : List (List Int)}, RepL K S vs l → asTups l = some ts → TupsAt S vs ts
  | _, [], _, .nil, e => by cases e; exact .nil
  | _, d :: l, ts, .cons r t, e => by
    cases d with
    | tup m =>
      have e : (asInts m).bind (fun ns => if ns = [] then none else (asTups l).map (ns :: ·)) = some ts := e
      simp only [Option.bind_eq_some_iff] at e
      obtain ⟨ns, h1, e⟩ := e
      by_cases hn : ns = []
      · rw [if_pos hn] at e; cases e
      · rw [if_neg hn] at e
        simp only [Option.map_eq_some_iff] at e
        obtain ⟨ts', h2, rfl⟩ := e
        obtain ⟨t', rfl, ht⟩ := rep_tup_ints r h1
        exact .cons hn ht (tups_at t h2)
    | _ => cases e
theorem int_map_inj : ∀ {a b : List Int}, a.map V.int = b.map V.int → a = b
  | [], [], _ => rfl
  | [], _ :: _, h => by cases h
  | _ :: _, [], h => by cases h
  | x :: a, y :: b, h => by
    have h := List.cons.inj h
    rw [V.int.inj h.1, int_map_inj h.2]
def intV : V → Int
  | .int i => i
  | _ => 0
/-- the ints of a tuple in the heap -/
noncomputable def intsOfV (H : Hp) (v : V) : List Int := match v with
  | .ref t => (match H t with | some (.tup xs) => xs.map intV | some (.frz _ (.tup xs)) => xs.map intV | _ => [])
  | _ => []
theorem intsOfV_of {t : Addr} {ns : List Int} (h : TupAt H t (ns.map .int)) : intsOfV H (.ref t) = ns := by
  obtain ⟨u, h, q⟩ := h
  have e : (ns.map V.int).map intV = ns := by rw [List.map_map]; exact List.map_id _
  unfold intsOfV
  dsimp only
  rw [h]
  rcases q.cases with rfl | ⟨o, rfl⟩ <;> exact e
theorem TupsAt.key (hs : Sub S H) : ∀ {vs : List V} {ts : List (List Int)}, TupsAt S vs ts → vs.map (intsOfV H) = ts ∧ ∀ x ∈ vs, intsOfV H x ≠ [] ∧ ∃ t, x = V.ref t ∧ TupAt S t ((intsOfV H x).map .int)
  | _, _, .nil => ⟨rfl, fun x h => nomatch h⟩
  | _, _, .cons hn ht r => by
    obtain ⟨h1, h2⟩ := r.key hs
    have e := intsOfV_of (ht.sub hs)
    refine ⟨by rw [List.map_cons, h1, e], fun x hx => ?_⟩
    rcases List.mem_cons.mp hx with rfl | hx
    · rw [e]; exact ⟨hn, _, rfl, ht⟩
    · exact h2 x hx
theorem repL_tups : ∀ {ys : List V}, (∀ x ∈ ys, ∃ t, x = V.ref t ∧ TupAt S t ((intsOfV H x).map .int)) → RepL K S ys ((ys.map (intsOfV H)).map tupD)
  | [], _ => .nil
  | y :: ys, h => by
    obtain ⟨t, rfl, ht⟩ := h y List.mem_cons_self
    exact .cons (.tup ht (RepL.ints _)) (repL_tups fun x hx => h x (List.mem_cons_of_mem _ hx))
end
section
variable {X : Cx}
theorem call_sort_Z : CallR X (.builtin "sorted") (rBi X.K .sorted) := by
  intro pins s σ H xs us Q I r h
  obtain ⟨S, ds, hs, hl, q⟩ := h
  obtain ⟨d, e, q⟩ := told_some q
  replace e : biSort ds = some d := e
  unfold biSort at e
  split at e
  · obtain ⟨v, rfl, s1⟩ := hl.one
    obtain ⟨a, vs, rfl, ha, ra⟩ := s1
    split at e
    · rename_i ns h1
      cases e
      obtain rfl := ra.asInts h1
      refine cr_sortedI pins s σ H _ us Q I r ⟨a, ns, rfl, .of ha, fun ns' p hp hw hn => ?_⟩
      have e := perm_sorted (hp.trans (sort_ok ns).1.symm) hw (sort_ok ns).2
      subst e
      exact told_lst hs q (RepL.ints _) p hn
    · simp only [Option.map_eq_some_iff] at e
      obtain ⟨ts, h1, rfl⟩ := e
      obtain ⟨k1, k2⟩ := (tups_at ra h1).key hs
      refine cr_sortTups pins s σ H _ us Q I r ⟨a, vs, intsOfV H, rfl, .of ha, fun x hx => ?_, fun ys p hw hp hn => ?_⟩
      · obtain ⟨h1, t, e, ht⟩ := k2 x hx
        exact ⟨h1, t, e, ht.sq hs⟩
      · have e : ys.map (intsOfV H) = ts.mergeSort lexLe := by
          refine perm_lex ?_ (List.pairwise_map.mpr hw) (tsort_ok ts).2
          refine (hp.map _).trans ?_
          rw [k1]
          exact (tsort_ok ts).1.symm
        rw [← e] at q
        exact told_lst hs q (repL_tups fun x hx => (k2 x (hp.mem_iff.mp hx)).2) p hn
  · cases e
/-! ### max and min with default= -/
def rMaxD (K : PySem.W.Frag) : List V → List V → Hp → VK → Prop := fun xs zs H Q => ∃ (a : Addr) (ns : List Int) (k : Int), xs = [.ref a] ∧ zs = [.int k] ∧ SqL K H a (ns.map V.int) ∧ (ns = [] → Q (.int k) H) ∧ ∀ m, m ∈ ns → (∀ y, y ∈ ns → y ≤ m) → Q (.int m) H
def rMinD (K : PySem.W.Frag) : List V → List V → Hp → VK → Prop := fun xs zs H Q => ∃ (a : Addr) (ns : List Int) (k : Int), xs = [.ref a] ∧ zs = [.int k] ∧ SqL K H a (ns.map V.int) ∧ (ns = [] → Q (.int k) H) ∧ ∀ m, m ∈ ns → (∀ y, y ∈ ns → m ≤ y) → Q (.int m) H
end
section
variable {prog : Program} {w : World} {A : Around} {E : Value → Shared → Prop} {s : Shared} {l : Addr} {its : List Value} {ns : List Int} {Q : Value → Shared → Prop}
theorem max_rawD {d : Value} (hh : A.handled = none) (hl : s.heap.IsList l its.toArray) (hi : IntsAre its ns) (h0 : ns = [] → ∀ h' tk, (∀ b o, s.heap.get? b = some o → h'.get? b = some o) → Q d { s with heap := h', toks := tk })
    (h : ∀ h' tk M t', (∀ b o, s.heap.get? b = some o → h'.get? b = some o) → M ∈ ns → (∀ a, a ∈ ns → a ≤ M) → Q (.int M t') { s with heap := h', toks := tk }) : wpAny (model prog w) A (call (.builtin "max") [.ref l] [(Str.ofString "default", d)]) Q E s := by
  obtain ⟨xs, e⟩ := hi.allInts.items
  have hn : numsOf (intItems xs).toList = ns := by rw [← e]; exact hi.numsOf
  rw [nums_intItems] at hn
  subst hn
  rw [e] at hl
  refine call_max_walkD (iter_intList hl fun s₂ e st hfp hlI => ?_)
  subst e
  refine ⟨_, _, _, _, _, _, _, ⟨#[], {}⟩, _, rfl, (Walks.list (A := A.in1) hh _ l hlI (intItems xs)).toS, st, hfp, (fun b o z => by simp [Heap.get?] at z), (fun b o z => by simp [Heap.get?] at z), fun hz s' hm => ?_, fun hp => ⟨fun i j vi vj s Q E _ hi hj hQ => CmpOf.ints_gt (numAt xs) (fun _ _ => intItems_at) i j vi vj s Q E hi hj hQ, fun v s' hP hm => ?_⟩⟩
  · obtain ⟨h', g, d', tk, os⟩ := s'
    have eg : g = s.gens := hm.gens
    have ed : d' = s.drawn := hm.drawn
    have eo : os = s.os := hm.os
    subst eg; subst ed; subst eo
    refine h0 (List.eq_nil_of_length_eq_zero (by rw [List.length_map, Array.length_toList]; simpa [intItems] using hz)) h' tk (old_kept fun b o hb => hm.heap b o hb)
  · have hsz : 0 < xs.size := by simpa [intItems] using hp
    obtain ⟨h', g, d', tk, os⟩ := s'
    have eg : g = s.gens := hm.gens
    have ed : d' = s.drawn := hm.drawn
    have eo : os = s.os := hm.os
    subst eg; subst ed; subst eo
    obtain ⟨t, rfl⟩ := intItems_at (by simpa [intItems] using hP : (intItems xs)[argBest (fun i j => decide (numAt xs i > numAt xs j)) (xs.size - 1)]? = some v)
    obtain ⟨h1, h2⟩ := argBest_gt (numAt xs) (xs.size - 1)
    refine h h' tk _ t (old_kept fun b o hb => hm.heap b o hb) ?_ fun a ha => ?_
    · rw [numAt_eq]; exact PySem.getD_mem (by rw [List.length_map, Array.length_toList]; omega)
    · obtain ⟨j, hj, rfl⟩ := mem_getD ha
      rw [List.length_map, Array.length_toList] at hj
      rw [← numAt_eq]; exact h2 j (by omega)
theorem min_rawD {d : Value} (hh : A.handled = none) (hl : s.heap.IsList l its.toArray) (hi : IntsAre its ns) (h0 : ns = [] → ∀ h' tk, (∀ b o, s.heap.get? b = some o → h'.get? b = some o) → Q d { s with heap := h', toks := tk })
    (h : ∀ h' tk M t', (∀ b o, s.heap.get? b = some o → h'.get? b = some o) → M ∈ ns → (∀ a, a ∈ ns → M ≤ a) → Q (.int M t') { s with heap := h', toks := tk }) : wpAny (model prog w) A (call (.builtin "min") [.ref l] [(Str.ofString "default", d)]) Q E s := by
  obtain ⟨xs, e⟩ := hi.allInts.items
  have hn : numsOf (intItems xs).toList = ns := by rw [← e]; exact hi.numsOf
  rw [nums_intItems] at hn
  subst hn
  rw [e] at hl
  refine call_min_walkD (iter_intList hl fun s₂ e st hfp hlI => ?_)
  subst e
  refine ⟨_, _, _, _, _, _, _, ⟨#[], {}⟩, _, rfl, (Walks.list (A := A.in1) hh _ l hlI (intItems xs)).toS, st, hfp, (fun b o z => by simp [Heap.get?] at z), (fun b o z => by simp [Heap.get?] at z), fun hz s' hm => ?_, fun hp => ⟨fun i j vi vj s Q E _ hi hj hQ => CmpOf.ints_lt (numAt xs) (fun _ _ => intItems_at) i j vi vj s Q E hi hj hQ, fun v s' hP hm => ?_⟩⟩
  · obtain ⟨h', g, d', tk, os⟩ := s'
    have eg : g = s.gens := hm.gens
    have ed : d' = s.drawn := hm.drawn
    have eo : os = s.os := hm.os
    subst eg; subst ed; subst eo
    refine h0 (List.eq_nil_of_length_eq_zero (by rw [List.length_map, Array.length_toList]; simpa [intItems] using hz)) h' tk (old_kept fun b o hb => hm.heap b o hb)
  · have hsz : 0 < xs.size := by simpa [intItems] using hp
    obtain ⟨h', g, d', tk, os⟩ := s'
    have eg : g = s.gens := hm.gens
    have ed : d' = s.drawn := hm.drawn
    have eo : os = s.os := hm.os
    subst eg; subst ed; subst eo
    obtain ⟨t, rfl⟩ := intItems_at (by simpa [intItems] using hP : (intItems xs)[argBest (fun i j => decide (numAt xs i < numAt xs j)) (xs.size - 1)]? = some v)
    obtain ⟨h1, h2⟩ := argBest_lt (numAt xs) (xs.size - 1)
    refine h h' tk _ t (old_kept fun b o hb => hm.heap b o hb) ?_ fun a ha => ?_
    · rw [numAt_eq]; exact PySem.getD_mem (by rw [List.length_map, Array.length_toList]; omega)
    · obtain ⟨j, hj, rfl⟩ := mem_getD ha
      rw [List.length_map, Array.length_toList] at hj
      rw [← numAt_eq]; exact h2 j (by omega)
end
section
variable {X : Cx}
theorem cr_maxD (hc : X.calm = true) : CallRK X (.builtin "max") [Str.ofString "default"] (rMaxD X.K) := by
  intro pins s σ H xs zs us ws Q I r rz h
  obtain ⟨a, ns, k, rfl, rfl, hs, q0, q⟩ := h
  obtain ⟨its, rv, hl, _⟩ := I.list hs
  rw [Vals.ref1 r]
  obtain ⟨w1, rfl, t1, rfl⟩ := vals1 rz
  exact max_rawD (I.ok.hd hc) hl.isList rv.ints (fun e h' tk hk => ⟨.int _, H, I.kept hk, ⟨_, rfl⟩, q0 e⟩) fun h' tk m t' hk h1 h2 => ⟨.int _, H, I.kept hk, ⟨_, rfl⟩, q m h1 h2⟩
theorem cr_minD (hc : X.calm = true) : CallRK X (.builtin "min") [Str.ofString "default"] (rMinD X.K) := by
  intro pins s σ H xs zs us ws Q I r rz h
  obtain ⟨a, ns, k, rfl, rfl, hs, q0, q⟩ := h
  obtain ⟨its, rv, hl, _⟩ := I.list hs
  rw [Vals.ref1 r]
  obtain ⟨w1, rfl, t1, rfl⟩ := vals1 rz
  exact min_rawD (I.ok.hd hc) hl.isList rv.ints (fun e h' tk hk => ⟨.int _, H, I.kept hk, ⟨_, rfl⟩, q0 e⟩) fun h' tk m t' hk h1 h2 => ⟨.int _, H, I.kept hk, ⟨_, rfl⟩, q m h1 h2⟩
end

/-! ### len(set(..)) -/
theorem nodup_len {a b : List Int} (ha : a.Nodup) (hb : b.Nodup) (h : ∀ x, x ∈ a ↔ x ∈ b) : a.length = b.length :=
  ((List.perm_ext_iff_of_nodup ha hb).mpr h).length_eq
theorem nodup_erase (l : List Int) : l.eraseDups.Nodup := by
  induction h : l.length using Nat.strongRecOn generalizing l with
  | ind n ih =>
    cases l with
    | nil => exact List.nodup_nil
    | cons x r =>
      rw [List.eraseDups_cons]
      refine List.nodup_cons.mpr ⟨fun m => ?_, ih _ ?_ _ rfl⟩
      · have := List.mem_eraseDups.mp m
        simp at this
      · subst h
        exact Nat.lt_succ_of_le (List.length_filter_le ..)
section
variable {X : Cx}
theorem firstMet_mem (ns : List Int) : ∀ i, i ≤ ns.length → (PyProof.Rows.firstMet (fun i => ns.getD i 0) i).Nodup ∧ ∀ x, x ∈ PyProof.Rows.firstMet (fun i => ns.getD i 0) i ↔ x ∈ ns.take i
  | 0, _ => ⟨List.nodup_nil, fun x => Iff.rfl⟩
  | i + 1, hi => by
    have hlt : i < ns.length := hi
    obtain ⟨h1, h2⟩ := firstMet_mem ns i (Nat.le_of_lt hlt)
    have e1 : ns.getD i 0 = ns[i] := by
      rw [List.getD_eq_getElem?_getD, List.getElem?_eq_getElem hlt] <;> rfl
    have e2 : ns.take (i + 1) = ns.take i ++ [ns[i]] := by
      rw [List.take_add_one, List.getElem?_eq_getElem hlt] <;> rfl
    rw [PyProof.Rows.firstMet_succ, e2]
    show (if (PyProof.Rows.firstMet (fun i => ns.getD i 0) i).any (· == ns.getD i 0) then PyProof.Rows.firstMet (fun i => ns.getD i 0) i else PyProof.Rows.firstMet (fun i => ns.getD i 0) i ++ [ns.getD i 0]).Nodup ∧ ∀ x, x ∈ (if (PyProof.Rows.firstMet (fun i => ns.getD i 0) i).any (· == ns.getD i 0) then PyProof.Rows.firstMet (fun i => ns.getD i 0) i else PyProof.Rows.firstMet (fun i => ns.getD i 0) i ++ [ns.getD i 0]) ↔ x ∈ ns.take i ++ [ns[i]]
    rw [e1]
    cases hb : (PyProof.Rows.firstMet (fun i => ns.getD i 0) i).any (· == ns[i]) with
    | true =>
      obtain ⟨y, hy, ey⟩ := List.any_eq_true.mp hb
      obtain rfl : y = ns[i] := eq_of_beq ey
      simp only [if_true]
      refine ⟨h1, fun x => ?_⟩
      rw [h2, List.mem_append, List.mem_singleton]
      refine ⟨.inl, fun z => ?_⟩
      rcases z with z | z
      · exact z
      · rw [z]; exact (h2 _).mp hy
    | false =>
      simp only [Bool.false_eq_true, if_false]
      refine ⟨List.nodup_append.mpr ⟨h1, List.nodup_cons.mpr ⟨(fun z => nomatch z), List.nodup_nil⟩, fun a ha b hb' e => ?_⟩, fun x => ?_⟩
      · rw [List.mem_singleton.mp hb'] at e
        subst e
        exact absurd (beq_self_eq_true _) (List.any_eq_false.mp hb _ ha)
      · rw [List.mem_append, h2, List.mem_append]
theorem firstMet_len (ns : List Int) : (PyProof.Rows.firstMet (fun i => ns.getD i 0) ns.length).length = ns.eraseDups.length := by
  obtain ⟨h1, h2⟩ := firstMet_mem ns ns.length (Nat.le_refl _)
  refine nodup_len h1 (nodup_erase ns) fun x => ?_
  rw [h2, List.take_length, List.mem_eraseDups]
def rLenSet (K : PySem.W.Frag) (x : V) (H : Hp) (Q : VK) : Prop := ∃ (l : Addr) (ns : List Int), x = .ref l ∧ (SqL K H l (ns.map V.int) ∨ SqT K H l (ns.map V.int)) ∧ ns.length ≤ 4000 ∧ Q (.int (ns.eraseDups.length : Nat)) H
def tLenSetZ (K : PySem.W.Frag) (ta : TE) : TE := fun σ H Q => ta σ H fun x H1 => rLenSet K x H1 Q
theorem pe_lenSetZ {a : Expr} {ta : TE} {p p2 q pos : Pos} (hg : Gl X "len") (hm : X.mg "len" = none) (hg2 : Gl X "set") (hm2 : X.mg "set" = none) (ha : PE X a ta) (hc : X.calm = true)
    (na : starEach [a] X.env = (false, eval a X.env) :: starEach [] X.env) : PE X (.Call (.Name "len" p) [.Call (.Name "set" p2) [a] [] q] [] pos) (tLenSetZ X.K ta) := by
  refine ⟨fun pins s σ H Q I h => ?_⟩
  refine Call_ (ld_blt I hg hm boot_len ?_)
  refine PyProof.Rows.callWith_builtin1 (PyProof.Rows.args_cons ?_ rfl) rfl rfl
  refine Call_ (ld_blt I hg2 hm2 boot_set ?_)
  refine PyProof.Rows.callWith_type1 (PyProof.Rows.args_cons (thn (ha.run pins s σ H _ I h) fun v s1 ⟨x, H1, I1, r1, q1⟩ => PyProof.Rows.args_nil ?_) na) na rfl
  obtain ⟨l, ns, rfl, hq, hl, q1⟩ := q1
  cases r1
  rcases hq with hq | hq
  · obtain ⟨its, r, pl, hz⟩ := I1.list hq
    have hlen : its.toArray.size = ns.length := by rw [List.size_toArray, ← r.length, List.length_map]
    refine call_set_list (I1.ok.hd hc) pl.isList (by simpa using RZ.intsAre_vals r) (by rw [hlen]; unfold scanBound; omega) fun h' tk hS hk => ?_
    refine PyProof.Rows.args_nil ?_
    rw [hlen, firstMet_len] at hS
    have hle : ns.eraseDups.length ≤ ns.length := by rw [← firstMet_len]; exact PyProof.Rows.firstMet_length_le _ _
    obtain ⟨o, es, ep, t, ho, hex, hd, _, _, _, hf, hn⟩ := hS
    have I2 : Inv X pins σ H1 { s1 with heap := h', toks := tk } := I1.kept fun b o e => hk b o (Heap.lt_size e) e
    exact call_len_set ho hex hd hf (by rw [hn] <;> omega) ⟨.int ns.eraseDups.length, H1, I2.tok _, ⟨_, by rw [hn]⟩, q1⟩
  · obtain ⟨its, r, pl, hz⟩ := I1.tuple hq
    refine call_set_tupI ns (I1.ok.hd hc) pl (by simpa using RZ.intsAre_vals r) (by unfold scanBound; omega) fun h' tk c hS hcl hk => ?_
    refine PyProof.Rows.args_nil ?_
    obtain ⟨o, es, ep, t, ho, hex, hd, hg, hnd, hm, hb, hf, hn, _⟩ := hS
    have ec : es.size = ns.eraseDups.length := by
      have := nodup_len (nodup_erase ns) hnd fun x => by
        rw [← hm, decide_eq_true_eq, List.mem_eraseDups]
      rw [this, List.length_map, Array.length_toList]
    have I2 : Inv X pins σ H1 { s1 with heap := h', toks := tk } := I1.kept hk
    exact call_len_set ho hex hd hf (by omega) ⟨.int ns.eraseDups.length, H1, I2.tok _, ⟨_, by rw [ec]⟩, q1⟩
/-! ### t.index(k), xs.index(k) -/
theorem mt_tup_indexI : MtR X "tuple.index" (fun x xs H Q => ∃ (p : Addr) (ns : List Int) (k : Int), x = .ref p ∧ xs = [.int k] ∧ SqT X.K H p (ns.map V.int) ∧ k ∈ ns ∧ Q (.int (ns.idxOf k : Nat)) H) := by
  intro pins s σ H x xs v us Q I rx rs h
  obtain ⟨p, ns, k, rfl, rfl, hq, hk, q⟩ := h
  cases rx
  obtain ⟨u, rfl, t, rfl⟩ := vals1 rs
  obtain ⟨its, r, pl, hz⟩ := I.tuple hq
  exact SeqAt.tuple_index_ints pl (RZ.intsAre_vals r) hk ⟨.int _, H, I.tok _, ⟨_, rfl⟩, q⟩
/-- a tuple whose object is known -/
def KnownT (x : V) (H : Hp) : Prop := ∃ (p : Addr) (o : Obj) (vs : List V), x = .ref p ∧ o.dict = none ∧ H p = some (.frz o (.tup vs))
def tIdxZ (K : PySem.W.Frag) (to te : TE) : TE := fun σ H Q => to σ H fun x H1 => (KnownT x H1 ∧ te σ H1 fun y H2 => ∃ (p : Addr) (ns : List Int) (k : Int), x = .ref p ∧ y = .int k ∧ SqT K H2 p (ns.map V.int) ∧ k ∈ ns ∧ Q (.int (ns.idxOf k : Nat)) H2) ∨
  (tyV K "list" x H1 ∧ te σ H1 fun y H2 => rIndexD K x [y] H2 Q)
theorem pe_idxZ {o e : Expr} {to te : TE} {apos cpos : Pos} (hu : X.A.units + 65 < cLine) (ho : PE X o to) (he : PE X e te)
    (hbase : attributeBase o "index" X.env (eval o X.env) = eval o X.env) (hline : (apos.endLine == cpos.line) = true) (hs : starEach [e] X.env = [(false, eval e X.env)]) :
    PE X (.Call (.Attribute o "index" apos) [e] [] cpos) (tIdxZ X.K to te) := by
  have hfew : ((backTo cpos (starEach [e] X.env)).all (fun x => !x.1) && (backToKw cpos (keywordEach [] X.env)).all (fun x => x.1.isSome)
      && decide (([e] : List Expr).length + ([] : List Keyword).length + (if ([] : List Keyword).isEmpty then 0 else 1) < 30)) = true := by rw [hs]; rfl
  refine ⟨fun pins s σ H Q I h => ?_⟩
  refine wpAny_Call_method_late hbase hfew hline rfl (thn (ho.run pins s σ H _ I h) fun v s1 ⟨x, H1, I1, r1, q0⟩ => ?_)
  rcases q0 with ⟨⟨p, ob, vs, rfl, hd, hp⟩, q1⟩ | ⟨ty, q1⟩
  · obtain ⟨g1, g2⟩ := (show ObjOk X.prog X.w H1 s1.heap p (.frz ob (.tup vs)) from I1.hok p _ hp)
    obtain ⟨_, its, rv, o2, ho2, hc, n, hdt⟩ := g2
    have h1 : s1.TypeIs v "tuple" := by cases r1; exact ⟨o2, ho2, hc⟩
    have h2 : ∀ a, v = .ref a → ∃ ob, s1.heap.get? a = some ob ∧ ob.dict = none := fun a e => by
      cases r1; cases e; exact ⟨ob, g1, hd⟩
    refine ⟨"tuple", "tuple.index", F.plainAttrs_tuple, F.slot_tuple_index, F.type_tuple_index, h1, h2, ?_⟩
    rw [hs]
    refine Calls.callWith_builtin rfl (Calls.evalArgs_plain (Calls.spliced_cons ?_))
    exact thn (he.run pins s1 σ H1 _ I1 q1) fun u s2 ⟨y, H2, I2, r2, p', ns, k, e1, e2, hq, hk, q2⟩ => Calls.spliced_nil (mt_tup_indexI pins s2 σ H2 (.ref p) [y] v [u] Q I2 r1 (.cons r2 .nil) ⟨p', ns, k, e1, by rw [e2], hq, hk, q2⟩)
  · obtain ⟨h1, h2⟩ := tyV_is I1 r1 ty
    refine ⟨"list", "list.index", F.plainAttrs_list, F.slot_list_index, F.type_list_index, h1, h2, ?_⟩
    rw [hs]
    refine Calls.callWith_builtin rfl (Calls.evalArgs_plain (Calls.spliced_cons ?_))
    exact thn (he.run pins s1 σ H1 _ I1 q1) fun u s2 ⟨y, H2, I2, r2, q2⟩ => Calls.spliced_nil (mt_indexD hu pins s2 σ H2 x [y] v [u] Q I2 r1 (.cons r2 .nil) q2)
end
end Vm

/-! VmG: which text a program of the interpreter stands for. -/
namespace Vm
open PySem PySem.Spec PyProof.Rows L2
mutual
/-- a test that the interpreter takes -/
def tstB : E → Bool
  | .cmp _ _ _ => true | .chn _ _ _ _ _ => true | .bop _ es => tstsB es | .not a => tstB a | .call _ _ => true | .bi _ _ => true | .isi _ _ => true | .mth _ _ _ => true | .var _ => true | .idx _ _ => true
  | _ => false
def tstsB : Es → Bool
  | .nil => true
  | .cons a r => tstB a && tstsB r
end
section
variable (nm : Nat → Str) (N : List Str)
def visB (sc : Scope) (x : Str) : Bool := match sc.names.lookup x with
  | some .local => true | some .cell => true | some .free => true | _ => false
def locB (sc : Scope) (x : Str) : Bool := match sc.names.lookup x with
  | some .local => true | some .cell => true | _ => false
def glB (sc : Scope) (x : Str) : Bool := match sc.names.lookup x with
  | some .globalImplicit => true | _ => false
def okNm (x : Str) : Bool := !(x == ("__debug__" : Str)) && !(x == ("__classdict__" : Str)) && !(x == ("__name__" : Str))
def varB (sc : Scope) (i : Nat) (x : Str) : Bool := decide (N[i]? = some x) && visB sc x && okNm x
/-- a name that is stored to -/
def stoB (fn : Str → Bool) (sc : Scope) (i : Nat) : Expr → Bool
  | .Name x _ => decide (N[i]? = some x) && locB sc x && okNm x && (fn x || decide (sc.names.lookup x = some .local))
  | _ => false
def stosB (fn : Str → Bool) (sc : Scope) : List Nat → List Expr → Bool
  | [], x => x.isEmpty
  | i :: is, x => (match x with | y :: ys => stoB N fn sc i y && stosB fn sc is ys | _ => false)
def tgtB (fn : Str → Bool) (sc : Scope) (tp : Bool) (ts : List Nat) (x : Expr) : Bool := match tp with
  | false => (match ts with | [i] => stoB N fn sc i x | _ => false)
  | true => (match x with | .Tuple xs _ _ => stosB N fn sc ts xs | _ => false)
def conB : C → Const → Bool
  | .non, .none => true
  | .bl b, .bool c => b == c
  | .int i, .int j => decide (i = j)
  | .str i, .str j => decide (i = j)
  | _, _ => false
def isNameB (x : Str) (sc : Scope) : Expr → Bool
  | .Name y _ => decide (y = x) && glB sc y && okNm y
  | _ => false
def mthName : MT → Str
  | .index => "index" | .split => "split" | .join => "join" | .startswith => "startswith" | .get => "get"
def mthOk : MT → Es → Bool
  | .get, .cons _ (.cons _ .nil) => true
  | .get, _ => false
  | _, .cons _ .nil => true
  | _, _ => false
def rngE : Es → Bool
  | .cons _ .nil => true
  | .cons _ (.cons _ .nil) => true
  | _ => false
/-- no super() -/
def baseB : Expr → Bool
  | .Call _ [] _ _ => false
  | _ => true
def tyName : Ty → String
  | .str => "str" | .int => "int" | .bool => "bool" | .tuple => "tuple" | .list => "list"
def tyStr : Ty → Str
  | .str => "str" | .int => "int" | .bool => "bool" | .tuple => "tuple" | .list => "list"
mutual
def mE (sc : Scope) : E → Expr → Bool
  | .con c, x => (match x with | .Constant k _ _ => conB c k | _ => false)
  | .var i, x => (match x with | .Name y _ => varB N sc i y | _ => false)
  | .glb _ _, _ => false
  | .tup es, x => (match x with | .Tuple l _ _ => mEs sc es l | _ => false)
  | .lst es, x => (match x with | .List l _ => mEs sc es l | _ => false)
  | .bin o a b, x => (match x with | .BinOp l op r _ => decide (op = boOp o) && mE sc a l && mE sc b r | _ => false)
  | .neg a, x => (match x with | .UnaryOp op l _ => decide (op = .USub) && mE sc a l | _ => false)
  | .cmp o a b, x => (match x with | .Compare l ops rs _ => (match ops, rs with | [op], [r] => decide (op = coOp o) && mE sc a l && mE sc b r | _, _ => false) | _ => false)
  | .chn o p a b c, x => (match x with | .Compare l ops rs _ => (match ops, rs with | [op, op'], [r, t] => decide (op = coOp o) && decide (op' = coOp p) && mE sc a l && mE sc b r && mE sc c t | _, _ => false) | _ => false)
  | .bop k es, x => (match x with | .BoolOp op l _ => decide (op = if k then .And else .Or) && mEs sc es l | _ => false)
  | .not a, x => (match x with | .UnaryOp op l _ => decide (op = .Not) && mE sc a l | _ => false)
  | .ite c a b, x => (match x with | .IfExp t l r _ => mE sc c t && mE sc a l && mE sc b r && tstB c | _ => false)
  | .idx a i, x => (match x with | .Subscript l r _ => mE sc a l && mE sc i r | _ => false)
  | .slc a lo hi, x => (match x with | .Subscript l s _ => (match s with | .Slice lo' hi' st _ => st.isNone && mE sc a l && mEo sc lo lo' && mEo sc hi hi' | _ => false) | _ => false)
  | .stp _ _, _ => false
  | .call f as, x => (match x with | .Call g args kw _ => isNameB (nm f) sc g && kw.isEmpty && !args.isEmpty && !(nm f == "") && mAs sc as args | _ => false)
  | .bi b es, x => (match x with | .Call g args kw _ => isNameB (biName b) sc g && kw.isEmpty && !args.isEmpty && mEs sc es args | _ => false)
  | .bid b a d, x => (match x with | .Call g args kw _ => isNameB (biName b) sc g && (decide (b = .max) || decide (b = .min)) && (match args with | [y] => mE sc a y | _ => false) && (match kw with | [⟨nm, z, _⟩] => decide (nm = some "default") && mE sc d z | _ => false) | _ => false)
  | .lset a, x => (match x with | .Call g args kw _ => isNameB "len" sc g && kw.isEmpty && (match args with | [y] => (match y with | .Call g2 args2 kw2 _ => isNameB "set" sc g2 && kw2.isEmpty && (match args2 with | [z] => mE sc a z | _ => false) | _ => false) | _ => false) | _ => false)
  | .lrng t es, x => (match x with | .Call g args kw _ => isNameB (if t = true then "tuple" else "list") sc g && kw.isEmpty && (match args with | [y] => (match y with | .Call g2 args2 kw2 _ => isNameB "range" sc g2 && kw2.isEmpty && rngE es && mEs sc es args2 | _ => false) | _ => false) | _ => false)
  | .mth m r es, x => (match x with | .Call g args kw pos => (match g with | .Attribute o name apos => decide (name = mthName m) && (apos.endLine == pos.line) && baseB o && kw.isEmpty && mthOk m es && mE sc r o && mEs sc es args | _ => false) | _ => false)
  | .isi a t, x => (match x with | .Call g args kw _ => isNameB "isinstance" sc g && kw.isEmpty && (match args with | [y, c] => mE sc a y && isNameB (tyStr t) sc c | _ => false) | _ => false)
  | .newd _, x => (match x with | .Dict ks vs _ => ks.isEmpty && vs.isEmpty | _ => false)
  | .comp elt tp ts src cond, x => (match x with
    | .ListComp y gens scope _ => (match gens with
      | [⟨tg, iter, ifs, asy⟩] => decide (asy = 0) && blkC N sc scope ((ts.filterMap fun i => (N[i]?).map fun x => (x, i))) && decide ((ts.filterMap fun i => (N[i]?).map fun x => (x, i)).length = ts.length) && tgtB N (fun x => scope.names.lookup x == some .cell) (relS scope sc) tp ts tg && mSrc sc src iter && mE (relS scope sc) elt y && (match cond, ifs with
        | .none, [] => true
        | .some c, [z] => mE (relS scope sc) c z && tstB c
        | _, _ => false)
      | _ => false)
    | _ => false)
def mEs (sc : Scope) : Es → List Expr → Bool
  | .nil, x => x.isEmpty
  | .cons a r, x => (match x with | y :: ys => mE sc a y && mEs sc r ys | _ => false)
def mEo (sc : Scope) : Eo → Option Expr → Bool
  | .none, x => x.isNone
  | .some a, x => (match x with | some y => mE sc a y | _ => false)
def mAs (sc : Scope) : As → List Expr → Bool
  | .nil, x => x.isEmpty
  | .val a r, x => (match x with | y :: ys => mE sc a y && mAs sc r ys | _ => false)
  | .mov a r, x => (match x with | y :: ys => mE sc a y && mAs sc r ys | _ => false)
  | .give a r, x => (match x with | y :: ys => mE sc a y && mAs sc r ys | _ => false)
  | .lend i r, x => (match x with | y :: ys => (match y with | .Name z _ => varB N sc i z | _ => false) && mAs sc r ys | _ => false)
  | .ref i r, x => (match x with | y :: ys => (match y with | .Name z _ => varB N sc i z | _ => false) && mAs sc r ys | _ => false)
def mSrc (sc : Scope) : Src → Expr → Bool
  | .ex a, x => mE sc a x
  | .own i, x => (match x with | .Name z _ => varB N sc i z | _ => false)
  | .rng es, x => (match x with | .Call g args kw _ => isNameB "range" sc g && kw.isEmpty && rngE es && mEs sc es args | _ => false)
  | .zip _ _, _ => false
end
end
/-- what an expression of the interpreter never stands for -/
def plainX : Expr → Bool
  | .Starred _ _ => false | .Slice _ _ _ _ => false | .Set _ _ _ => false | .SetComp _ _ _ _ => false | .DictComp _ _ _ _ _ => false | .Lambda _ _ _ _ => false | .GeneratorExp _ _ _ _ => false
  | .NamedExpr _ _ _ => false | .Await _ _ => false | .Yield _ _ => false | .YieldFrom _ _ => false
  | _ => true
theorem mE_plain {nm : Nat → Str} {N : List Str} {sc : Scope} {a : E} {x : Expr} (h : mE nm N sc a x = true) : plainX x = true := by
  cases x <;> first | rfl | (exfalso; cases a <;> simp [mE] at h)
theorem plain_star {x : Expr} (h : plainX x = true) (es : List Expr) (env : PySem.Env) : starEach (x :: es) env = (false, eval x env) :: starEach es env := by
  cases x <;> first | rfl | cases h
theorem plain_sw {x : Expr} (h : plainX x = true) (hl : ∀ a b c d, x ≠ .ListComp a b c d) (t : Option Expr) (l : Nat) (env : PySem.Env) : swapsWith x t l env = pure false := by
  cases x <;> first | exact absurd rfl (hl _ _ _ _) | rfl | cases h
theorem plain_fold {x : Expr} (h : plainX x = true) (env : PySem.Env) (v : Value) : foldedSetIterable x env v = pure v := by
  cases x <;> first | rfl | cases h
theorem plain_mark {x : Expr} (h : plainX x = true) (op : CmpOp) : behindInMarks op x = false := by
  cases x <;> first | rfl | cases h
theorem plain_ix {x : Expr} (h : plainX x = true) : PlainIx x := by
  intro o i
  cases x <;> first | rfl | cases h
end Vm

/-! VmH: what the interpreter tells of an expression is what the text does. -/
namespace Vm
open PySem PySem.Spec PyProof.Rows L2

theorem PE.weak {X : Cx} {x : Expr} {t t' : TE} (h : PE X x t) (k : ∀ σ H Q, t' σ H Q → t σ H Q) : PE X x t' := ⟨fun pins s σ H Q I q => h.run pins s σ H Q I (k σ H Q q)⟩
theorem PT.weak {X : Cx} {x : Expr} {t t' : TT} (h : PT X x t) (k : ∀ σ H Q, t' σ H Q → t σ H Q) : PT X x t' := ⟨fun pins s σ H Q I q => h.run pins s σ H Q I (k σ H Q q)⟩
theorem PA.weak {X : Cx} {x : List Expr} {t t' : TA} (h : PA X x t) (k : ∀ σ H Q, t' σ H Q → t σ H Q) : PA X x t' := ⟨fun pos pins s σ H Q I q => h.run pos pins s σ H Q I (k σ H Q q)⟩
theorem PO.weak {X : Cx} {x : Option Expr} {t t' : TO} (h : PO X x t) (k : ∀ σ H Q, t' σ H Q → t σ H Q) : PO X x t' := ⟨fun pins s σ H Q I q => h.run pins s σ H Q I (k σ H Q q)⟩
theorem PE.never {X : Cx} {x : Expr} {t : TE} (k : ∀ σ H Q, ¬ t σ H Q) : PE X x t := ⟨fun _ _ σ H Q _ q => (k σ H Q q).elim⟩
theorem PT.never {X : Cx} {x : Expr} {t : TT} (k : ∀ σ H Q, ¬ t σ H Q) : PT X x t := ⟨fun _ _ σ H Q _ q => (k σ H Q q).elim⟩

section
variable (K : PySem.W.Frag) (ca : Ex → Addr) (G : Gh)
/-- what holds behind a run: J of what is told; W of what is raised -/
def Pst {α : Type} (P : List (Addr × HO)) (W : WX) (σ : L2.St) (S : Hp) (r : Res α) (J : α → Env → Hp → Hp → Prop) : Prop := match r with
  | .ok a e => ∀ S' H', Sub S S' → Rel K G P e σ S' H' → J a e S' H'
  | .exc x e => ∀ S' H', Sub S S' → Rel K G P e σ S' H' → W (.ref (ca x)) none σ H'
  | .bad => False
/-- v is what was told: a value, or a new list -/
def RV (P : List (Addr × HO)) (e : Env) (σ : L2.St) (S H : Hp) (p : Bool × D) (v : V) : Prop := match p with
  | (true, d) => ∃ l, v = .ref l ∧ Fre K G P e σ S H l d
  | (false, d) => Rep K S v d
def OV (σ : L2.St) (S : Hp) (o : Opd) (v : V) : Prop := match o with
  | .slot i => σ[i]? = some (some v)
  | .d d => Rep K S v d
inductive OVs (σ : L2.St) (S : Hp) : List Opd → List V → Prop
  | nil : OVs σ S [] []
  | cons {o : Opd} {v : V} {os : List Opd} {vs : List V} : OV K σ S o v → OVs σ S os vs → OVs σ S (o :: os) (v :: vs)
end
section
variable {K : PySem.W.Frag} {ca : Ex → Addr} {G : Gh} {P : List (Addr × HO)} {W : WX} {σ : L2.St} {S S1 H : Hp} {e : Env}
theorem Pst.mono {α : Type} {r : Res α} {J : α → Env → Hp → Hp → Prop} (hs : Sub S S1) (h : Pst K ca G P W σ S r J) : Pst K ca G P W σ S1 r J := by
  cases r with
  | ok a e => exact fun S' H' q R => h S' H' (hs.trans q) R
  | exc x e => exact fun S' H' q R => h S' H' (hs.trans q) R
  | bad => exact h
theorem Pst.bind {α β : Type} {r : Res α} {f : α → Env → Res β} {J : β → Env → Hp → Hp → Prop} (h : Pst K ca G P W σ S (r.bind f) J) : Pst K ca G P W σ S r fun a e S' H' => Pst K ca G P W σ S' (f a e) J := by
  cases r with
  | ok a e => exact fun S' H' q R => Pst.mono q h
  | exc x e => exact h
  | bad => exact h
theorem Pst.imp {α : Type} {r : Res α} {J J' : α → Env → Hp → Hp → Prop} (h : Pst K ca G P W σ S r J) (k : ∀ a e S' H', Sub S S' → Rel K G P e σ S' H' → J a e S' H' → J' a e S' H') : Pst K ca G P W σ S r J' := by
  cases r with
  | ok a e => exact fun S' H' q R => k a e S' H' q R (h S' H' q R)
  | exc x e => exact h
  | bad => exact h
theorem OV.mono {o : Opd} {v : V} (hs : Sub S S1) (h : OV K σ S o v) : OV K σ S1 o v := by
  cases o with
  | slot i => exact h
  | d d => exact Rep.mono hs h
theorem OVs.mono (hs : Sub S S1) : ∀ {os : List Opd} {vs : List V}, OVs K σ S os vs → OVs K σ S1 os vs
  | _, _, .nil => .nil
  | _, _, .cons a b => .cons (a.mono hs) (OVs.mono hs b)
theorem Rel.see (R : Rel K G P e σ S H) {o : Opd} {v : V} {d : D} (ov : OV K σ S o v) (g : got o e = some d) : See K S H v d := by
  cases o with
  | slot i =>
    obtain ⟨v', h1, h2⟩ := R.pick g
    have : v' = v := by
      have h3 : σ[i]? = some (some v) := ov
      rw [h3] at h1; cases h1; rfl
    rw [← this]; exact h2
  | d d' => cases g; exact Rep.see R.sub ov
theorem Rel.sees (R : Rel K G P e σ S H) : ∀ {os : List Opd} {vs : List V} {ds : List D}, OVs K σ S os vs → gots os e = some ds → SeeL K S H vs ds
  | _, _, _, .nil, g => by cases g; exact .nil
  | _, _, _, .cons (o := o) (os := os) a b, g => by
    simp only [gots, Option.bind_eq_some_iff, Option.map_eq_some_iff] at g
    obtain ⟨d, h1, ds, h2, rfl⟩ := g
    exact .cons (R.see a h1) (R.sees b h2)
/-- what was told, as a value -/
theorem Rel.rep (R : Rel K G P e σ S H) {p : Bool × D} {v : V} (h : RV K G P e σ S H p v) : ∃ S', Sub S S' ∧ Rel K G P e σ S' H ∧ Rep K S' v p.2 := by
  obtain ⟨b, d⟩ := p
  cases b with
  | true =>
    obtain ⟨l, rfl, F⟩ := h
    exact R.frz F
  | false => exact ⟨S, .refl S, R, h⟩
/-- what an operation has made -/
theorem Rel.made (R : Rel K G P e σ S H) {v : V} {H' : Hp} {d : D} (n : New K S H v H' d) : ∃ S', Sub S S' ∧ Rel K G P e σ S' H' ∧ RV K G P e σ S' H' (isL d, d) v := by
  obtain ⟨S1, h1, h2, h3, n⟩ := n
  have R1 := R.ext h1 h2 h3
  rcases n with ⟨rfl, hl, r⟩ | ⟨p, u, rfl, hp, rfl, n1, n2⟩
  · rw [hl]; exact ⟨S1, h1, R1, r⟩
  · cases hl : isL d with
    | true =>
      obtain ⟨R2, F⟩ := R1.fresh hp (n1 hl)
      exact ⟨S1, h1, R2, p, rfl, F⟩
    | false => exact ⟨upd S1 p u, h1.trans (Sub.upd (h2.none hp)), R1.alloc hp, n2 hl⟩
theorem Pst.told {o : Option D} {Q : VK} (R : Rel K G P e σ S H) (h : Pst K ca G P W σ S (Vm.fresh o e) fun p e' S' H' => ∀ v, RV K G P e' σ S' H' p v → Q v H') : Told K S H Q o := by
  cases o with
  | none => exact h
  | some d =>
    intro v H' n
    obtain ⟨S', hs, R', rv⟩ := R.made n
    exact h S' H' hs R' v rv
theorem Pst.toldB {o : Option Bool} {Q : VK} (R : Rel K G P e σ S H) (h : Pst K ca G P W σ S (ofB o e) fun p e' S' H' => ∀ v, RV K G P e' σ S' H' p v → Q v H') : ToldB H Q o := by
  cases o with
  | none => exact h
  | some d => exact h S H (.refl S) R _ (.bl d)
end

section
variable (K : PySem.W.Frag) (ca : Ex → Addr) (G : Gh) (call : CallT) (refs : List Nat) (W : WX)
/-- the readings that the interpreter gives -/
def tE (a : E) : TE := fun σ H Q => ∃ e S P, Rel K G P e σ S H ∧ Pst K ca G P W σ S (evE call refs a e) fun p e' S' H' => ∀ v, RV K G P e' σ S' H' p v → Q v H'
def tO (a : E) : TE := fun σ H Q => ∃ e S P, Rel K G P e σ S H ∧ Pst K ca G P W σ S (opnd (isVar a) (fun _ => evE call refs a e) e) fun o e' S' H' => ∀ v, OV K σ S' o v → Q v H'
def tBs (k : Bool) (es : Es) : TE := fun σ H Q => ∃ e S P, Rel K G P e σ S H ∧ Pst K ca G P W σ S (evBs call refs k es e) fun p e' S' H' => ∀ v, RV K G P e' σ S' H' p v → Q v H'
def tT (a : E) : TT := fun σ H Q => ∃ e S P, Rel K G P e σ S H ∧ Pst K ca G P W σ S (evT call refs a e) fun b e' S' H' => Q b H'
def tEs (es : Es) : TA := fun σ H Q => ∃ e S P, Rel K G P e σ S H ∧ Pst K ca G P W σ S (evEs call refs es e) fun l e' S' H' => ∀ vs, RepL K S' vs l → Q vs H'
def tPs (es : Es) : TA := fun σ H Q => ∃ e S P, Rel K G P e σ S H ∧ Pst K ca G P W σ S (evPs call refs es e) fun l e' S' H' => ∀ vs, OVs K σ S' l vs → Q vs H'
def tEo (a : Eo) : TO := fun σ H Q => ∃ e S P, Rel K G P e σ S H ∧ Pst K ca G P W σ S (evEo call refs a e) fun o e' S' H' => Q o H'
end

def freeNames : List Str := ["len", "abs", "int", "str", "min", "max", "all", "any", "tuple", "list", "sorted", "range", "zip", "isinstance", "bool", "set", "ValueError"]
/-- the arguments of a call, as they lie -/
inductive Args (K : PySem.W.Frag) (S H : Hp) : List AV → List V → List Addr → List Addr → Prop
  | nil : Args K S H [] [] [] []
  | val {d : D} {v : V} {as : List AV} {vs : List V} {B C : List Addr} : Rep K S v d → Args K S H as vs B C → Args K S H (.val d :: as) (v :: vs) B C
  | own {d : D} {l : Addr} {as : List AV} {vs : List V} {B C : List Addr} : Own K S H l d → Args K S H as vs B C → Args K S H (.own d :: as) (.ref l :: vs) (l :: B) C
  | give {d : D} {l : Addr} {as : List AV} {vs : List V} {B C : List Addr} : Own K S H l d → Args K S H as vs B C → Args K S H (.give d :: as) (.ref l :: vs) B (l :: C)
/-- the changed lists, behind the call -/
inductive Outs (K : PySem.W.Frag) (S H : Hp) : List Addr → List D → Prop
  | nil : Outs K S H [] []
  | cons {l : Addr} {d : D} {B : List Addr} {os : List D} : Own K S H l d → Outs K S H B os → Outs K S H (l :: B) (d :: os)
/-- what is so behind a call: B may be changed, C was given away -/
structure After (K : PySem.W.Frag) (S H : Hp) (B C : List Addr) (S' H' : Hp) (os : List D) : Prop where
  s0 : Sub S S'
  sub : Sub S' H'
  fr : ∀ b o, H b = some o → b ∉ B → b ∉ C → H' b = some o
  new : ∀ b o, S' b = some o → Mut (some o) → S b ≠ none ∨ H b = none ∨ b ∈ C
  outs : Outs K S' H' B os
/-- a call's promise by the interpreter -/
def PstF (K : PySem.W.Frag) (ca : Ex → Addr) (S H : Hp) (B C : List Addr) (Q : VK) (E : XK) : Out → Prop
  | .ret fr d os => ∀ v S' H', After K S H B C S' H' os → (match fr with
      | true => ∃ l, v = .ref l ∧ Own K S' H' l d ∧ l ∉ B ∧ (H l = none ∨ l ∈ C)
      | false => Rep K S' v d) → Q v H'
  | .exc x os => ∀ S' H', After K S H B C S' H' os → E (.ref (ca x)) none H'
  | .bad => False
def spOf (K : PySem.W.Frag) (ca : Ex → Addr) (call : CallT) (f : Nat) : Sp := fun vs H Q E => ∃ S as B C, Sub S H ∧ Args K S H as vs B C ∧ (B ++ C).Nodup ∧ PstF K ca S H B C Q E (call f as)
def CallsOk (P : Program) (w : World) (K : PySem.W.Frag) (mg : Str → Option Value) (base : Heap) (nm : Nat → Str) (ca : Ex → Addr) (call : CallT) (j : Nat) : Prop :=
  ∀ f, nm f ≠ "" → ∃ (a : Addr) (fd : FuncData) (ps : List Str), mg (nm f) = some (.ref a) ∧ PySem.W.keepIn K (.ref a) = true ∧ Binds K fd ps [] ∧ FnOk P w K mg base (L2.CX P w) j a fd ps (spOf K ca call f)
structure Good (nm : Nat → Str) (ca : Ex → Addr) (call : CallT) (j : Nat) (X : Cx) : Prop where
  calm : X.calm = true
  nd : X.N.Nodup
  room : Room j X.A
  calls : CallsOk X.prog X.w X.K X.mg X.base nm ca call j
  free : ∀ x ∈ freeNames, X.mg x = none

section
variable {nm : Nat → Str} {ca : Ex → Addr} {G : Gh} {call : CallT} {j : Nat} {refs : List Nat} {W : WX} {X : Cx} {N : List Str}
theorem and2 {a b : Bool} (h : (a && b) = true) : a = true ∧ b = true := Bool.and_eq_true_iff.mp h
theorem visB_ok {sc : Scope} {x : Str} (h : visB sc x = true) : Vis sc x := by
  unfold visB at h
  split at h
  · exact .inl (by assumption)
  · exact .inr (.inl (by assumption))
  · exact .inr (.inr (by assumption))
  · cases h
theorem locB_ok {sc : Scope} {x : Str} (h : locB sc x = true) : Loc sc x := by
  unfold locB at h
  split at h
  · exact .inl (by assumption)
  · exact .inr (by assumption)
  · cases h
theorem okNm_ok {x : Str} (h : okNm x = true) : (x == ("__debug__" : Str)) = false ∧ (x == ("__classdict__" : Str)) = false ∧ x ≠ ("__name__" : Str) := by
  unfold okNm at h
  obtain ⟨h, h3⟩ := and2 h
  obtain ⟨h1, h2⟩ := and2 h
  refine ⟨by simpa using h1, by simpa using h2, fun z => ?_⟩
  subst z
  simp at h3
theorem pe_name {i : Nat} {x : Str} {pos : Pos} (h : varB X.N X.env.scope i x = true) : PE X (.Name x pos) (tVar i) := by
  unfold varB at h
  obtain ⟨h, h3⟩ := and2 h
  obtain ⟨h1, h2⟩ := and2 h
  obtain ⟨k1, k2, _⟩ := okNm_ok h3
  exact pe_var (of_decide_eq_true h1) (visB_ok h2) k1 k2
theorem isNameB_ok {x : Str} {sc : Scope} {e : Expr} (h : isNameB x sc e = true) : ∃ pos, e = .Name x pos ∧ sc.names.lookup x = some .globalImplicit ∧ okNm x = true := by
  unfold isNameB at h
  split at h
  · rename_i y pos
    obtain ⟨h, h3⟩ := and2 h
    obtain ⟨h1, h2⟩ := and2 h
    obtain rfl := of_decide_eq_true h1
    refine ⟨pos, rfl, ?_, h3⟩
    unfold glB at h2
    split at h2
    · assumption
    · cases h2
  · cases h
/-- an operand -/
theorem sO {a : E} {x : Expr} (hm : mE nm X.N X.env.scope a x = true) (h : PE X x (tE X.K ca G call refs W a)) : PE X x (tO X.K ca G call refs W a) := by
  cases hv : isVar a with
  | none =>
    refine PE.weak h fun σ H Q ⟨e, S, P, R, q⟩ => ⟨e, S, P, R, ?_⟩
    rw [hv] at q
    exact (Pst.bind q).imp fun p e1 S1 H1 hs1 R1 q1 v rv => by
      obtain ⟨S2, hs2, R2, r2⟩ := R1.rep rv
      exact q1 S2 H1 hs2 R2 v r2
  | some i =>
    have ha : a = .var i := by
      cases a with
      | var i' => cases hv; rfl
      | _ => cases hv
    subst ha
    unfold mE at hm
    split at hm
    · refine PE.weak (pe_name hm) fun σ H Q ⟨e, S, P, R, q⟩ => ?_
      simp only [isVar, opnd] at q
      cases e1 : pk e i with
      | none => rw [e1] at q; exact q.elim
      | some d =>
        rw [e1] at q
        obtain ⟨v, h1, h2⟩ := R.pick e1
        exact ⟨v, h1, q S H (.refl S) R v h1⟩
    · cases hm
end
end Vm

namespace Vm
open PySem PySem.Spec PyProof.Rows L2
section
variable {nm : Nat → Str} {ca : Ex → Addr} {G : Gh} {call : CallT} {j : Nat} {refs : List Nat} {W : WX} {X : Cx}
theorem Res.bind_assoc {α β γ : Type} (r : Res α) (f : α → Env → Res β) (g : β → Env → Res γ) : (r.bind f).bind g = r.bind fun a e => (f a e).bind g := by
  cases r <;> rfl
theorem op1_bind {α β : Type} (o : Opd) (e : Env) (f : D → Res α) (g : α → Env → Res β) : (op1 o e f).bind g = op1 o e fun x => (f x).bind g := by
  unfold op1
  cases got o e <;> rfl
theorem Pst.op1 {α : Type} {K : PySem.W.Frag} {P : List (Addr × HO)} {σ : L2.St} {S H : Hp} {e : Env} {o : Opd} {v : V} {f : D → Res α} {J : α → Env → Hp → Hp → Prop} (R : Rel K G P e σ S H) (ov : OV K σ S o v)
    (h : Pst K ca G P W σ S (Vm.op1 o e f) J) : ∃ d, See K S H v d ∧ Pst K ca G P W σ S (f d) J := by
  unfold Vm.op1 at h
  cases g : got o e with
  | none => rw [g] at h; exact h.elim
  | some d => rw [g] at h; exact ⟨d, R.see ov g, h⟩
theorem Pst.op2 {α : Type} {K : PySem.W.Frag} {P : List (Addr × HO)} {σ : L2.St} {S H : Hp} {e : Env} {o p : Opd} {v w : V} {f : D → D → Res α} {J : α → Env → Hp → Hp → Prop} (R : Rel K G P e σ S H) (ov : OV K σ S o v) (ow : OV K σ S p w)
    (h : Pst K ca G P W σ S (Vm.op2 o p e f) J) : ∃ d d', got o e = some d ∧ See K S H v d ∧ See K S H w d' ∧ Pst K ca G P W σ S (f d d') J := by
  unfold Vm.op2 at h
  cases g : got o e with
  | none => rw [g] at h; exact h.elim
  | some d => cases g2 : got p e with
    | none => rw [g, g2] at h; exact h.elim
    | some d' => rw [g, g2] at h; exact ⟨d, d', rfl, R.see ov g, R.see ow g2, h⟩
theorem s_con {c : C} {x : Expr} (h : mE nm X.N X.env.scope (.con c) x = true) : PE X x (tE X.K ca G call refs W (.con c)) := by
  unfold mE at h
  split at h
  · rename_i k _ _
    cases c with
    | non =>
      cases k <;> first | (cases h; done) | skip
      exact PE.weak pe_non fun σ H Q ⟨e, S, P, R, q⟩ => q S H (.refl S) R _ .non
    | bl b =>
      cases k <;> first | (cases h; done) | skip
      rename_i b'
      have hb : b = b' := eq_of_beq h
      subst hb
      exact PE.weak pe_bl fun σ H Q ⟨e, S, P, R, q⟩ => q S H (.refl S) R _ (.bl b)
    | int b =>
      cases k <;> first | (cases h; done) | skip
      obtain rfl := of_decide_eq_true h
      exact PE.weak pe_int fun σ H Q ⟨e, S, P, R, q⟩ => q S H (.refl S) R _ (.int b)
    | str b =>
      cases k <;> first | (cases h; done) | skip
      obtain rfl := of_decide_eq_true h
      exact PE.weak pe_str fun σ H Q ⟨e, S, P, R, q⟩ => q S H (.refl S) R _ (.str b)
  · cases h
theorem s_var {i : Nat} {x : Expr} (h : mE nm X.N X.env.scope (.var i) x = true) : PE X x (tE X.K ca G call refs W (.var i)) := by
  unfold mE at h
  split at h
  · refine PE.weak (pe_name h) fun σ H Q ⟨e, S, P, R, q⟩ => ?_
    simp only [evE, rd] at q
    split at q
    · rename_i d hd
      obtain ⟨v, h1, r⟩ := R.val i d hd
      exact ⟨v, h1, q S H (.refl S) R v r⟩
    · rename_i d hd
      obtain ⟨S', hs, R'⟩ := R.frzSlot (.inl hd)
      obtain ⟨v, h1, r⟩ := R'.val i d (by rw [List.getElem?_set_self (IsOwn.lt (.inl hd))])
      exact ⟨v, h1, q S' H hs R' v r⟩
    · rename_i d hd
      obtain ⟨S', hs, R'⟩ := R.frzSlot (.inr hd)
      obtain ⟨v, h1, r⟩ := R'.val i d (by rw [List.getElem?_set_self (IsOwn.lt (.inr hd))])
      exact ⟨v, h1, q S' H hs R' v r⟩
    · exact q.elim
  · cases h
theorem s_tup {es : Es} {x : Expr} (h : mE nm X.N X.env.scope (.tup es) x = true) (ih : ∀ l, mEs nm X.N X.env.scope es l = true → PA X l (tEs X.K ca G call refs W es)) : PE X x (tE X.K ca G call refs W (.tup es)) := by
  unfold mE at h
  split at h
  · refine PE.weak (pe_tupU (ih _ h)) fun σ H Q ⟨e, S, P, R, q⟩ => ⟨e, S, P, R, ?_⟩
    exact (Pst.bind q).imp fun l e1 S1 H1 hs1 R1 q1 vs r => by
      split at q1
      · rename_i hl
        refine ⟨by rw [line_eq, r.length]; omega, fun p u hu n => ?_⟩
        exact q1 _ _ (Sub.upd (R1.sub.none n)) (R1.alloc n) _ (.tup ⟨u, upd_same, hu⟩ (r.mono (Sub.upd (R1.sub.none n))))
      · exact q1.elim
  · cases h
theorem s_lst {es : Es} {x : Expr} (h : mE nm X.N X.env.scope (.lst es) x = true) (ih : ∀ l, mEs nm X.N X.env.scope es l = true → PA X l (tEs X.K ca G call refs W es)) : PE X x (tE X.K ca G call refs W (.lst es)) := by
  unfold mE at h
  split at h
  · refine PE.weak (pe_lst (ih _ h)) fun σ H Q ⟨e, S, P, R, q⟩ => ⟨e, S, P, R, ?_⟩
    exact (Pst.bind q).imp fun l e1 S1 H1 hs1 R1 q1 vs r => by
      split at q1
      · rename_i hl
        refine ⟨by rw [line_eq, r.length]; omega, fun p n => ?_⟩
        obtain ⟨R2, F⟩ := R1.fresh (d := .lst l) n ⟨vs, upd_same, r⟩
        exact q1 _ _ (.refl S1) R2 _ ⟨p, rfl, F⟩
      · exact q1.elim
  · cases h
theorem s_bin {o : BO} {a b : E} {x : Expr} (h : mE nm X.N X.env.scope (.bin o a b) x = true) (iha : ∀ y, mE nm X.N X.env.scope a y = true → PE X y (tE X.K ca G call refs W a)) (ihb : ∀ y, mE nm X.N X.env.scope b y = true → PE X y (tE X.K ca G call refs W b)) : PE X x (tE X.K ca G call refs W (.bin o a b)) := by
  unfold mE at h
  split at h
  · obtain ⟨h, h3⟩ := and2 h
    obtain ⟨h1, h2⟩ := and2 h
    obtain rfl := of_decide_eq_true h1
    refine PE.weak (pe_op (op_bin o) (sO h2 (iha _ h2)) (sO h3 (ihb _ h3))) fun σ H Q ⟨e, S, P, R, q⟩ => ⟨e, S, P, R, ?_⟩
    exact (Pst.bind q).imp fun p e1 S1 H1 hs1 R1 q1 v ov => ⟨e1, S1, P, R1, (Pst.bind q1).imp fun p' e2 S2 H2 hs2 R2 q2 w ow => by
      obtain ⟨d, d', _, s1, s2, q3⟩ := q2.op2 R2 (ov.mono hs2) ow
      exact ⟨S2, d, d', R2.sub, s1, s2, q3.told R2⟩⟩
  · cases h
theorem s_neg {a : E} {x : Expr} (h : mE nm X.N X.env.scope (.neg a) x = true) (iha : ∀ y, mE nm X.N X.env.scope a y = true → PE X y (tE X.K ca G call refs W a)) : PE X x (tE X.K ca G call refs W (.neg a)) := by
  unfold mE at h
  split at h
  · obtain ⟨h1, h2⟩ := and2 h
    obtain rfl := of_decide_eq_true h1
    refine PE.weak (pe_un un_neg (sO h2 (iha _ h2))) fun σ H Q ⟨e, S, P, R, q⟩ => ⟨e, S, P, R, ?_⟩
    exact (Pst.bind q).imp fun p e1 S1 H1 hs1 R1 q1 v ov => by
      obtain ⟨d, s1, q2⟩ := q1.op1 R1 ov
      cases d with
      | int i =>
        obtain rfl := see_int s1
        exact ⟨i, rfl, q2 S1 H1 (.refl S1) R1 _ (.int _)⟩
      | _ => exact q2.elim
  · cases h
theorem s_cmp {o : CO} {a b : E} {x : Expr} (g : Good nm ca call j X) (h : mE nm X.N X.env.scope (.cmp o a b) x = true) (iha : ∀ y, mE nm X.N X.env.scope a y = true → PE X y (tE X.K ca G call refs W a)) (ihb : ∀ y, mE nm X.N X.env.scope b y = true → PE X y (tE X.K ca G call refs W b)) :
    PE X x (tE X.K ca G call refs W (.cmp o a b)) ∧ PT X x (tT X.K ca G call refs W (.cmp o a b)) := by
  have hu : X.A.units + 100 < cLine := by have := g.room.un; omega
  unfold mE at h
  split at h
  · split at h
    · obtain ⟨h, h3⟩ := and2 h
      obtain ⟨h1, h2⟩ := and2 h
      obtain rfl := of_decide_eq_true h1
      refine ⟨PE.weak (pe_cmpR (op_cmp o hu) (sO h2 (iha _ h2)) (sO h3 (ihb _ h3)) (plain_mark (mE_plain h3) _)) fun σ H Q ⟨e, S, P, R, q⟩ => ⟨e, S, P, R, ?_⟩, PT.weak (pt_cmpR (op_cmp o hu) (sO h2 (iha _ h2)) (sO h3 (ihb _ h3)) (plain_mark (mE_plain h3) _)) fun σ H Q ⟨e, S, P, R, q⟩ => ⟨e, S, P, R, ?_⟩⟩
      · exact (Pst.bind q).imp fun p e1 S1 H1 hs1 R1 q1 v ov => ⟨e1, S1, P, R1, (Pst.bind q1).imp fun p' e2 S2 H2 hs2 R2 q2 w ow => by
          obtain ⟨d, d', _, s1, s2, q3⟩ := q2.op2 R2 (ov.mono hs2) ow
          exact ⟨S2, d, d', R2.sub, s1, s2, q3.toldB R2⟩⟩
      · have q : Pst X.K ca G P W σ S ((evE call refs (.cmp o a b) e).bind fun p e => asB p.2 e) fun b e' S' H' => Q b H' := by
          have e1 : evT call refs (.cmp o a b) e = (evE call refs (.cmp o a b) e).bind fun p e => asB p.2 e := by
            simp only [evT, isVar, opnd, Res.bind_assoc]
            congr 1
          rw [← e1]; exact q
        simp only [evE, Res.bind_assoc] at q
        exact (Pst.bind q).imp fun p e1 S1 H1 hs1 R1 q1 v ov => ⟨e1, S1, P, R1, (Pst.bind q1).imp fun p' e2 S2 H2 hs2 R2 q2 w ow => by
          have q2 : Pst X.K ca G P W σ S2 (Vm.op2 p p' e2 fun x y => (ofB (cmpD o x y) e2).bind fun p e => asB p.2 e) fun b e' S' H' => Q b H' := by
            unfold Vm.op2 at q2 ⊢
            cases g1 : got p e2 <;> cases g2 : got p' e2 <;> (rw [g1, g2] at q2; exact q2)
          obtain ⟨d, d', _, s1, s2, q3⟩ := q2.op2 R2 (ov.mono hs2) ow
          refine ⟨S2, d, d', R2.sub, s1, s2, ?_⟩
          cases hc : cmpD o d d' with
          | none => rw [hc] at q3; exact q3.elim
          | some b => rw [hc] at q3; exact ⟨b, rfl, q3 S2 H2 (.refl S2) R2⟩⟩
    · cases h
  · cases h
end
end Vm

namespace Vm
open PySem PySem.Spec PyProof.Rows L2
section
variable {nm : Nat → Str} {ca : Ex → Addr} {G : Gh} {call : CallT} {j : Nat} {refs : List Nat} {W : WX} {X : Cx}
theorem Res.bind_congr {α β : Type} {r : Res α} {f g : α → Env → Res β} (h : ∀ a e, f a e = g a e) : r.bind f = r.bind g := by
  cases r with
  | ok a e => exact h a e
  | exc x e => rfl
  | bad => rfl
theorem op2_bind {α β : Type} (o p : Opd) (e : Env) (f : D → D → Res α) (g : α → Env → Res β) : (Vm.op2 o p e f).bind g = Vm.op2 o p e fun x y => (f x y).bind g := by
  unfold Vm.op2
  cases got o e <;> cases got p e <;> rfl
/-- a test of no name -/
theorem evT_of {a : E} (h : isVar a = none) (e : Env) : evT call refs a e = (evE call refs a e).bind fun p e => asB p.2 e := by
  simp only [evT, h, opnd, Res.bind_assoc]
  exact Res.bind_congr fun p e => rfl
theorem asB_some {K : PySem.W.Frag} {P : List (Addr × HO)} {σ : L2.St} {S : Hp} {d : D} {e : Env} {J : Bool → Env → Hp → Hp → Prop} (h : Pst K ca G P W σ S (asB d e) J) : ∃ b, d = .bl b ∧ Pst K ca G P W σ S (.ok b e) J := by
  cases d with
  | bl b => exact ⟨b, rfl, h⟩
  | _ => exact h.elim
theorem rv_bl {K : PySem.W.Frag} {P : List (Addr × HO)} {σ : L2.St} {S H : Hp} {e : Env} {fr : Bool} {b : Bool} {v : V} (h : RV K G P e σ S H (fr, .bl b) v) : v = .bl b := by
  cases fr with
  | true => obtain ⟨l, _, F⟩ := h; exact F.own.2.elim
  | false => exact see_bl (K := K) (S := S) (H := S) (Rep.see (.refl S) h)
/-- a test by its value -/
theorem pt_of {a : E} {x : Expr} (hv : isVar a = none) (h : PE X x (tE X.K ca G call refs W a)) (he : ∀ whole, isTrue x X.env whole = (do let v ← whole; standAt x.pos; holding [v] (truthy v))) : PT X x (tT X.K ca G call refs W a) := by
  refine PT.weak (pt_val h he) fun σ H Q ⟨e, S, P, R, q⟩ => ⟨e, S, P, R, ?_⟩
  rw [evT_of hv] at q
  exact (Pst.bind q).imp fun p e1 S1 H1 hs1 R1 q1 v rv => by
    obtain ⟨fr, d⟩ := p
    obtain ⟨b, rfl, q2⟩ := asB_some q1
    exact ⟨b, rv_bl rv, q2 S1 H1 (.refl S1) R1⟩
theorem s_chn {o p : CO} {a b c : E} {x : Expr} (g : Good nm ca call j X) (h : mE nm X.N X.env.scope (.chn o p a b c) x = true) (iha : ∀ y, mE nm X.N X.env.scope a y = true → PE X y (tE X.K ca G call refs W a)) (ihb : ∀ y, mE nm X.N X.env.scope b y = true → PE X y (tE X.K ca G call refs W b)) (ihc : ∀ y, mE nm X.N X.env.scope c y = true → PE X y (tE X.K ca G call refs W c)) :
    PE X x (tE X.K ca G call refs W (.chn o p a b c)) ∧ PT X x (tT X.K ca G call refs W (.chn o p a b c)) := by
  have hu : X.A.units + 100 < cLine := by have := g.room.un; omega
  unfold mE at h
  split at h
  · split at h
    · obtain ⟨h, h5⟩ := and2 h
      obtain ⟨h, h4⟩ := and2 h
      obtain ⟨h, h3⟩ := and2 h
      obtain ⟨h1, h2⟩ := and2 h
      obtain rfl := of_decide_eq_true h1
      obtain rfl := of_decide_eq_true h2
      have hm : ∀ {r t : Expr}, plainX t = true → lastMarks [coOp o, coOp p] [r, t] = false := fun {r t} z => plain_mark z _
      have core : ∀ {σ : L2.St} {H : Hp} {Q : VK} {e : Env} {S : Hp} {P : List (Addr × HO)}, Rel X.K G P e σ S H →
          Pst X.K ca G P W σ S (evE call refs (.chn o p a b c) e) (fun p e' S' H' => ∀ v, RV X.K G P e' σ S' H' p v → Q v H') →
          tChain (rcmp X.K (cmpD o)) (rcmp X.K (cmpD p)) (tO X.K ca G call refs W a) (tO X.K ca G call refs W b) (tO X.K ca G call refs W c) σ H Q := fun {σ H Q e S P} R q => ⟨e, S, P, R, (Pst.bind q).imp fun pa e1 S1 H1 hs1 R1 q1 v ov => ⟨e1, S1, P, R1, (Pst.bind q1).imp fun pb e2 S2 H2 hs2 R2 q2 w ow => by
        obtain ⟨d, d', _, s1, s2, q3⟩ := q2.op2 R2 (ov.mono hs2) ow
        refine ⟨S2, d, d', R2.sub, s1, s2, ?_⟩
        cases hc : cmpD o d d' with
        | none => rw [hc] at q3; exact q3.elim
        | some k =>
          rw [hc] at q3
          refine ⟨k, rfl, ?_⟩
          simp only [ofO, Res.bind] at q3
          cases k with
          | false => exact q3 S2 H2 (.refl S2) R2 _ (.bl false)
          | true =>
            simp only [if_true] at q3 ⊢
            exact ⟨e2, S2, P, R2, (Pst.bind q3).imp fun pc e3 S3 H3 hs3 R3 q4 z oz => by
              obtain ⟨d1, d2, _, t1, t2, q5⟩ := q4.op2 R3 (ow.mono hs3) oz
              exact ⟨S3, d1, d2, R3.sub, t1, t2, q5.toldB R3⟩⟩⟩⟩
      refine ⟨PE.weak (pe_chain (op_cmp o hu) (op_cmp p hu) (sO h3 (iha _ h3)) (sO h4 (ihb _ h4)) (sO h5 (ihc _ h5)) (hm (mE_plain h5))) fun σ H Q ⟨e, S, P, R, q⟩ => core R q,
        PT.weak (pt_chain (op_cmp o hu) (op_cmp p hu) (sO h3 (iha _ h3)) (sO h4 (ihb _ h4)) (sO h5 (ihc _ h5)) (hm (mE_plain h5))) fun σ H Q ⟨e, S, P, R, q⟩ => core R ?_⟩
      rw [evT_of rfl] at q
      exact (Pst.bind q).imp fun p e1 S1 H1 hs1 R1 q1 v rv => by
        obtain ⟨fr, d⟩ := p
        obtain ⟨b, rfl, q2⟩ := asB_some q1
        exact ⟨b, rv_bl rv, q2 S1 H1 (.refl S1) R1⟩
    · cases h
  · cases h
/-- and, or as a test -/
def tTs (K : PySem.W.Frag) (ca : Ex → Addr) (G : Gh) (call : CallT) (refs : List Nat) (W : WX) (k : Bool) (es : Es) : TT := fun σ H Q => ∃ e S P, Rel K G P e σ S H ∧ Pst K ca G P W σ S ((evBs call refs k es e).bind fun p e => asB p.2 e) fun b e' S' H' => Q b H'
def bOp (k : Bool) : PySem.BoolOp := if k then .And else .Or
theorem evBs_cons {k : Bool} {a b : E} {r : Es} {e : Env} : evBs call refs k (.cons a (.cons b r)) e = (evT call refs a e).bind fun c e => if c = k then evBs call refs k (.cons b r) e else .ok (false, .bl c) e := by
  simp only [evBs, evT, Res.bind_assoc]
  exact Res.bind_congr fun o e => by rw [op1_bind]
theorem s_bopT (k : Bool) : ∀ (es : Es) (l : List Expr) (pos : Pos), mEs nm X.N X.env.scope es l = true → tstsB es = true → (∀ a y, mE nm X.N X.env.scope a y = true → tstB a = true → sizeOf a < sizeOf es → PT X y (tT X.K ca G call refs W a)) → l ≠ [] →
    PW X (.BoolOp (bOp k) l pos) (tTs X.K ca G call refs W k es)
  | .nil, l, pos, h, ht, ih, ne => by
    unfold mEs at h
    exact absurd (List.isEmpty_iff.mp h) ne
  | .cons a .nil, l, pos, h, ht, ih, ne => by
    unfold mEs at h
    split at h
    · rename_i y ys
      obtain ⟨h1, h2⟩ := and2 h
      have e1 : ys = [] := by unfold mEs at h2; exact List.isEmpty_iff.mp h2
      subst e1
      have t1 : tstB a = true := by unfold tstsB at ht; exact (and2 ht).1
      have p := ih a y h1 t1 (by simp; omega)
      have p' : PT X y (tTs X.K ca G call refs W k (.cons a .nil)) := PT.weak p fun σ H Q ⟨e, S, P, R, q⟩ => ⟨e, S, P, R, by
        cases hv : isVar a with
        | none => rw [evT_of hv]; exact q
        | some i =>
          have ha : a = .var i := by cases a <;> first | (cases hv; rfl) | cases hv
          subst ha
          simp only [evBs, evE, rd] at q
          simp only [evT, isVar, opnd, pk]
          split at q
          · rename_i d hd
            obtain ⟨b, rfl, q2⟩ := asB_some q
            simp only [hd, Res.bind, op1, got, pk, asB]
            exact q2
          · rename_i d hd
            obtain ⟨b, rfl, q2⟩ := asB_some q
            obtain ⟨l, a, o, _⟩ := R.own i _ (.inl hd)
            exact o.2.elim
          · rename_i d hd
            obtain ⟨b, rfl, q2⟩ := asB_some q
            obtain ⟨l, a, o, _⟩ := R.own i _ (.inr hd)
            exact o.2.elim
          · exact q.elim⟩
      cases k with
      | true => exact pw_and1 p'
      | false => exact pw_or1 p'
    · cases h
  | .cons a (.cons b r), l, pos, h, ht, ih, ne => by
    unfold mEs at h
    split at h
    · rename_i y ys
      obtain ⟨h1, h2⟩ := and2 h
      have t := ht
      unfold tstsB at t
      obtain ⟨t1, t2⟩ := and2 t
      have p := ih a y h1 t1 (by simp; omega)
      match ys, h2 with
      | [], h2 => unfold mEs at h2; cases h2
      | z :: zs, h2 =>
        have p2 := s_bopT k (.cons b r) (z :: zs) pos h2 t2 (fun a y h h' hz => ih a y h h' (by simp at hz ⊢; omega)) (by simp)
        have key : ∀ {σ : L2.St} {H : Hp} {Q : Bool → Hp → Prop}, tTs X.K ca G call refs W k (.cons a (.cons b r)) σ H Q → tT X.K ca G call refs W a σ H fun c H1 => if c = k then tTs X.K ca G call refs W k (.cons b r) σ H1 Q else Q c H1 := fun {σ H Q} ⟨e, S, P, R, q⟩ => ⟨e, S, P, R, by
          rw [evBs_cons, Res.bind_assoc] at q
          exact (Pst.bind q).imp fun c e1 S1 H1 hs1 R1 q1 => by
            by_cases hc : c = k
            · rw [if_pos hc] at q1 ⊢
              exact ⟨e1, S1, P, R1, q1⟩
            · rw [if_neg hc] at q1 ⊢
              exact q1 S1 H1 (.refl S1) R1⟩
        cases k with
        | true =>
          exact ⟨fun wh pins s σ H Q I hh => (pw_and p p2).run wh pins s σ H Q I (by
            obtain ⟨e, S, P, R, q⟩ := key hh
            refine ⟨e, S, P, R, q.imp fun c e1 S1 H1 hs1 R1 q1 => ?_⟩
            cases c with
            | true => exact q1
            | false => exact q1)⟩
        | false =>
          exact ⟨fun wh pins s σ H Q I hh => (pw_or p p2).run wh pins s σ H Q I (by
            obtain ⟨e, S, P, R, q⟩ := key hh
            refine ⟨e, S, P, R, q.imp fun c e1 S1 H1 hs1 R1 q1 => ?_⟩
            cases c with
            | true => exact q1
            | false => exact q1)⟩
    · cases h
end
end Vm

namespace Vm
open PySem PySem.Spec PyProof.Rows L2
theorem PE.or {X : Cx} {x : Expr} {t t' : TE} (h : PE X x t) (h' : PE X x t') : PE X x (fun σ H Q => t σ H Q ∨ t' σ H Q) := ⟨fun pins s σ H Q I q => by
  rcases q with q | q
  · exact h.run pins s σ H Q I q
  · exact h'.run pins s σ H Q I q⟩
section
variable {nm : Nat → Str} {ca : Ex → Addr} {G : Gh} {call : CallT} {j : Nat} {refs : List Nat} {W : WX} {X : Cx}
theorem s_bopE (k : Bool) : ∀ (es : Es) (l : List Expr) (pos : Pos), mEs nm X.N X.env.scope es l = true → (∀ a y, mE nm X.N X.env.scope a y = true → sizeOf a < sizeOf es → PE X y (tE X.K ca G call refs W a)) → l ≠ [] →
    PE X (.BoolOp (bOp k) l pos) (tBs X.K ca G call refs W k es)
  | .nil, l, pos, h, ih, ne => by
    unfold mEs at h
    exact absurd (List.isEmpty_iff.mp h) ne
  | .cons a .nil, l, pos, h, ih, ne => by
    unfold mEs at h
    split at h
    · rename_i y ys
      obtain ⟨h1, h2⟩ := and2 h
      have e1 : ys = [] := by unfold mEs at h2; exact List.isEmpty_iff.mp h2
      subst e1
      exact pe_one (PE.weak (ih a y h1 (by simp; omega)) fun σ H Q ⟨e, S, P, R, q⟩ => ⟨e, S, P, R, q⟩)
    · cases h
  | .cons a (.cons b r), l, pos, h, ih, ne => by
    unfold mEs at h
    split at h
    · rename_i y ys
      obtain ⟨h1, h2⟩ := and2 h
      have p := sO h1 (ih a y h1 (by simp; omega))
      match ys, h2 with
      | [], h2 => unfold mEs at h2; cases h2
      | z :: zs, h2 =>
        have p2 := s_bopE k (.cons b r) (z :: zs) pos h2 (fun a y h hz => ih a y h (by simp at hz ⊢; omega)) (by simp)
        have key : ∀ {σ : L2.St} {H : Hp} {Q : VK}, tBs X.K ca G call refs W k (.cons a (.cons b r)) σ H Q → tO X.K ca G call refs W a σ H fun v H1 => ∃ c, v = .bl c ∧ if c = k then tBs X.K ca G call refs W k (.cons b r) σ H1 Q else Q (.bl c) H1 := fun {σ H Q} ⟨e, S, P, R, q⟩ => ⟨e, S, P, R, by
          simp only [evBs] at q
          exact (Pst.bind q).imp fun c e1 S1 H1 hs1 R1 q1 v ov => by
            obtain ⟨d, s1, q2⟩ := q1.op1 R1 ov
            cases d with
            | bl c' =>
              obtain rfl := see_bl s1
              refine ⟨c', rfl, ?_⟩
              simp only [asB, Res.bind] at q2
              by_cases hc : c' = k
              · rw [if_pos hc] at q2 ⊢
                exact ⟨e1, S1, P, R1, q2⟩
              · rw [if_neg hc] at q2 ⊢
                exact q2 S1 H1 (.refl S1) R1 _ (.bl c')
            | _ => exact q2.elim⟩
        cases k with
        | true =>
          refine PE.weak (pe_and p p2) fun σ H Q hh => ?_
          obtain ⟨e, S, P, R, q⟩ := key hh
          refine ⟨e, S, P, R, q.imp fun c e1 S1 H1 hs1 R1 q1 v ov => ?_⟩
          obtain ⟨c, rfl, q2⟩ := q1 v ov
          refine ⟨c, rfl, ?_⟩
          cases c with
          | true => exact q2
          | false => exact q2
        | false =>
          refine PE.weak (pe_or p p2) fun σ H Q hh => ?_
          obtain ⟨e, S, P, R, q⟩ := key hh
          refine ⟨e, S, P, R, q.imp fun c e1 S1 H1 hs1 R1 q1 v ov => ?_⟩
          obtain ⟨c, rfl, q2⟩ := q1 v ov
          refine ⟨c, rfl, ?_⟩
          cases c with
          | true => exact q2
          | false => exact q2
    · cases h
theorem s_bop {k : Bool} {es : Es} {x : Expr} (h : mE nm X.N X.env.scope (.bop k es) x = true) (ih : ∀ a y, mE nm X.N X.env.scope a y = true → sizeOf a < sizeOf es → PE X y (tE X.K ca G call refs W a) ∧ (tstB a = true → PT X y (tT X.K ca G call refs W a))) :
    PE X x (tE X.K ca G call refs W (.bop k es)) ∧ (tstB (.bop k es) = true → PT X x (tT X.K ca G call refs W (.bop k es))) := by
  unfold mE at h
  split at h
  · rename_i op l pos
    obtain ⟨h1, h2⟩ := and2 h
    have e1 : op = bOp k := of_decide_eq_true h1
    subst e1
    by_cases ne : l = []
    · subst ne
      have e2 : es = .nil := by cases es <;> first | rfl | (unfold mEs at h2; cases h2)
      subst e2
      exact ⟨PE.never fun σ H Q ⟨e, S, P, R, q⟩ => q, fun _ => PT.never fun σ H Q ⟨e, S, P, R, q⟩ => q⟩
    · refine ⟨PE.weak (s_bopE k es l pos h2 (fun a y hm hz => (ih a y hm hz).1) ne) fun σ H Q ⟨e, S, P, R, q⟩ => ⟨e, S, P, R, q⟩, fun ht => ?_⟩
      unfold tstB at ht
      refine PT.weak (s_bopT k es l pos h2 ht (fun a y hm t hz => (ih a y hm hz).2 t) ne).pt fun σ H Q ⟨e, S, P, R, q⟩ => ⟨e, S, P, R, ?_⟩
      rw [evT_of rfl] at q
      exact q
  · cases h
theorem s_not {a : E} {x : Expr} (h : mE nm X.N X.env.scope (.not a) x = true) (ih : ∀ y, mE nm X.N X.env.scope a y = true → PE X y (tE X.K ca G call refs W a) ∧ (tstB a = true → PT X y (tT X.K ca G call refs W a))) :
    PE X x (tE X.K ca G call refs W (.not a)) ∧ (tstB (.not a) = true → PT X x (tT X.K ca G call refs W (.not a))) := by
  unfold mE at h
  split at h
  · obtain ⟨h1, h2⟩ := and2 h
    obtain rfl := of_decide_eq_true h1
    refine ⟨PE.weak (pe_not (sO h2 (ih _ h2).1)) fun σ H Q ⟨e, S, P, R, q⟩ => ⟨e, S, P, R, ?_⟩, fun ht => ?_⟩
    · exact (Pst.bind q).imp fun p e1 S1 H1 hs1 R1 q1 v ov => by
        obtain ⟨d, s1, q2⟩ := q1.op1 R1 ov
        cases d with
        | bl c =>
          obtain rfl := see_bl s1
          exact ⟨c, rfl, q2 S1 H1 (.refl S1) R1 _ (.bl _)⟩
        | _ => exact q2.elim
    · unfold tstB at ht
      refine PT.weak (pt_not ((ih _ h2).2 ht)) fun σ H Q ⟨e, S, P, R, q⟩ => ⟨e, S, P, R, ?_⟩
      rw [evT_of rfl] at q
      have e1 : (evE call refs (.not a) e).bind (fun p e => asB p.2 e) = (evT call refs a e).bind fun b e => .ok (!b) e := by
        simp only [evE, evT, Res.bind_assoc]
        refine Res.bind_congr fun o e => ?_
        rw [op1_bind, op1_bind]
        congr 1
        funext x
        rw [Res.bind_assoc]
        exact Res.bind_congr fun b e => rfl
      rw [e1] at q
      exact (Pst.bind q).imp fun b e1 S1 H1 hs1 R1 q1 => q1 S1 H1 (.refl S1) R1
  · cases h
theorem s_ite {c a b : E} {x : Expr} (h : mE nm X.N X.env.scope (.ite c a b) x = true) (ihc : ∀ y, mE nm X.N X.env.scope c y = true → tstB c = true → PT X y (tT X.K ca G call refs W c)) (iha : ∀ y, mE nm X.N X.env.scope a y = true → PE X y (tE X.K ca G call refs W a)) (ihb : ∀ y, mE nm X.N X.env.scope b y = true → PE X y (tE X.K ca G call refs W b)) : PE X x (tE X.K ca G call refs W (.ite c a b)) := by
  unfold mE at h
  split at h
  · obtain ⟨h, h4⟩ := and2 h
    obtain ⟨h, h3⟩ := and2 h
    obtain ⟨h1, h2⟩ := and2 h
    refine PE.weak (pe_ifExp (ihc _ h1 h4) (iha _ h2) (ihb _ h3)) fun σ H Q ⟨e, S, P, R, q⟩ => ⟨e, S, P, R, ?_⟩
    have e1 : evE call refs (.ite c a b) e = (evT call refs c e).bind fun k e => if k = true then evE call refs a e else evE call refs b e := by
      simp only [evE, evT, Res.bind_assoc]
      refine Res.bind_congr fun o e => ?_
      rw [op1_bind]
    rw [e1] at q
    exact (Pst.bind q).imp fun k e1 S1 H1 hs1 R1 q1 => by
      cases k with
      | true => exact ⟨e1, S1, P, R1, q1⟩
      | false => exact ⟨e1, S1, P, R1, q1⟩
  · cases h
theorem plain_nosl {x : Expr} (h : plainX x = true) : NoSl x := by
  intro o i
  cases x <;> first | rfl | cases h
theorem ix_A (hu : X.A.units + 1 < cLine) : IxR X (rIdx X.K idxD) := by
  intro value slice pins s σ H x y v u Q I rx ry h hsub
  obtain ⟨S, d1, d2, hs, s1, s2, d, e, q⟩ := h
  have dict : ∀ {d1 : D}, See X.K S H x d1 → (dget d1 d2).bind id = some d → wpAny (model X.prog X.w) X.A (subscriptTail value slice v u) (EP X pins σ Q) X.xe s := fun {d1} s1 e => by
    cases e1 : dget d1 d2 with
    | none => rw [e1] at e; cases e
    | some o =>
      rw [e1] at e
      have e : o = some d := e
      subst e
      obtain ⟨a, ov, rfl, g, w, rfl, rw'⟩ := s1.dget hs s2 e1
      obtain rfl : v = Value.ref a := rx
      exact tail_any (dict_typeIs I g) PySem.F.slot_dict_getitem.lookup (d_getItem hu I g ry fun w' s3 I3 rz => ⟨w, H, I3, rz, q w rw'⟩) hsub
  cases d1 with
  | dk l => exact dict s1 e
  | dt l => exact dict s1 e
  | _ => exact ix_Z value slice pins s σ H x y v u Q I rx ry ⟨S, _, d2, hs, s1, s2, d, e, q⟩ hsub
theorem s_idx {a i : E} {x : Expr} (g : Good nm ca call j X) (h : mE nm X.N X.env.scope (.idx a i) x = true) (iha : ∀ y, mE nm X.N X.env.scope a y = true → PE X y (tE X.K ca G call refs W a)) (ihb : ∀ y, mE nm X.N X.env.scope i y = true → PE X y (tE X.K ca G call refs W i)) : PE X x (tE X.K ca G call refs W (.idx a i)) := by
  have hu : X.A.units + 1 < cLine := by have := g.room.un; omega
  unfold mE at h
  split at h
  · obtain ⟨h1, h2⟩ := and2 h
    refine PE.weak (pe_ix (ix_A hu) (sO h1 (iha _ h1)) (sO h2 (ihb _ h2)) (plain_ix (mE_plain h2))) fun σ H Q ⟨e, S, P, R, q⟩ => ⟨e, S, P, R, ?_⟩
    exact (Pst.bind q).imp fun p e1 S1 H1 hs1 R1 q1 v ov => ⟨e1, S1, P, R1, (Pst.bind q1).imp fun p' e2 S2 H2 hs2 R2 q2 w ow => by
      obtain ⟨d, d', _, s1, s2, q3⟩ := q2.op2 R2 (ov.mono hs2) ow
      cases e3 : idxD d d' with
      | none => rw [e3] at q3; exact q3.elim
      | some z => rw [e3] at q3; exact ⟨S2, d, d', R2.sub, s1, s2, z, e3, fun v r => q3 S2 H2 (.refl S2) R2 v r⟩⟩
  · cases h
end
end Vm

namespace Vm
open PySem PySem.Spec PyProof.Rows L2
section
variable {nm : Nat → Str} {ca : Ex → Addr} {G : Gh} {call : CallT} {j : Nat} {refs : List Nat} {W : WX} {X : Cx}
theorem mEs_cons {N : List Str} {sc : Scope} {a : E} {r : Es} {l : List Expr} (h : mEs nm N sc (.cons a r) l = true) : ∃ y ys, l = y :: ys ∧ mE nm N sc a y = true ∧ mEs nm N sc r ys = true := by
  unfold mEs at h
  split at h
  · obtain ⟨h1, h2⟩ := and2 h
    exact ⟨_, _, rfl, h1, h2⟩
  · cases h
theorem mEs_nil {N : List Str} {sc : Scope} {l : List Expr} (h : mEs nm N sc .nil l = true) : l = [] := by
  unfold mEs at h
  exact List.isEmpty_iff.mp h
theorem mEs_stars {N : List Str} {sc : Scope} {env : PySem.Env} : ∀ {es : Es} {l : List Expr}, mEs nm N sc es l = true → starEach l env = l.map fun y => (false, eval y env)
  | .nil, l, h => by rw [mEs_nil h]; rfl
  | .cons a r, l, h => by
    obtain ⟨y, ys, rfl, h1, h2⟩ := mEs_cons h
    rw [plain_star (mE_plain h1), mEs_stars h2]; rfl
theorem star_any {l : List Expr} {env : PySem.Env} {pos : Pos} (h : starEach l env = l.map fun y => (false, eval y env)) : (backTo pos (starEach l env)).any (·.1) = false := by
  rw [h]
  unfold backTo
  rw [List.map_map]
  induction l with
  | nil => rfl
  | cons y ys ih => simp
theorem sEs : ∀ {es : Es} {l : List Expr}, mEs nm X.N X.env.scope es l = true → (∀ a y, mE nm X.N X.env.scope a y = true → sizeOf a < sizeOf es → PE X y (tE X.K ca G call refs W a)) → PA X l (tEs X.K ca G call refs W es)
  | .nil, l, h, ih => by
    rw [mEs_nil h]
    exact PA.weak pa_nil fun σ H Q ⟨e, S, P, R, q⟩ => q S H (.refl S) R [] .nil
  | .cons a r, l, h, ih => by
    obtain ⟨y, ys, rfl, h1, h2⟩ := mEs_cons h
    refine PA.weak (pa_cons (ih a y h1 (by simp; omega)) (sEs h2 fun a y h hz => ih a y h (by simp at hz ⊢; omega)) (plain_star (mE_plain h1) _ _)) fun σ H Q ⟨e, S, P, R, q⟩ => ⟨e, S, P, R, ?_⟩
    simp only [evEs] at q
    exact (Pst.bind q).imp fun p e1 S1 H1 hs1 R1 q1 v rv => by
      obtain ⟨S2, hs2, R2, r2⟩ := R1.rep rv
      exact ⟨e1, S2, P, R2, (Pst.bind (Pst.mono hs2 q1)).imp fun l e3 S3 H3 hs3 R3 q3 vs rs => q3 S3 H3 (.refl S3) R3 _ (.cons (r2.mono hs3) rs)⟩
theorem sPs : ∀ {es : Es} {l : List Expr}, mEs nm X.N X.env.scope es l = true → (∀ a y, mE nm X.N X.env.scope a y = true → sizeOf a < sizeOf es → PE X y (tE X.K ca G call refs W a)) → PA X l (tPs X.K ca G call refs W es)
  | .nil, l, h, ih => by
    rw [mEs_nil h]
    exact PA.weak pa_nil fun σ H Q ⟨e, S, P, R, q⟩ => q S H (.refl S) R [] .nil
  | .cons a r, l, h, ih => by
    obtain ⟨y, ys, rfl, h1, h2⟩ := mEs_cons h
    refine PA.weak (pa_cons (sO h1 (ih a y h1 (by simp; omega))) (sPs h2 fun a y h hz => ih a y h (by simp at hz ⊢; omega)) (plain_star (mE_plain h1) _ _)) fun σ H Q ⟨e, S, P, R, q⟩ => ⟨e, S, P, R, ?_⟩
    simp only [evPs] at q
    exact (Pst.bind q).imp fun o e1 S1 H1 hs1 R1 q1 v ov => ⟨e1, S1, P, R1, (Pst.bind q1).imp fun l e3 S3 H3 hs3 R3 q3 vs rs => q3 S3 H3 (.refl S3) R3 _ (.cons (ov.mono hs3) rs)⟩
theorem asI_some {K : PySem.W.Frag} {P : List (Addr × HO)} {σ : L2.St} {S : Hp} {d : D} {e : Env} {α : Type} {f : Int → Env → Res α} {J : α → Env → Hp → Hp → Prop} (h : Pst K ca G P W σ S ((asI d e).bind f) J) : ∃ b, d = .int b ∧ Pst K ca G P W σ S (f b e) J := by
  cases d with
  | int b => exact ⟨b, rfl, h⟩
  | _ => exact h.elim
theorem sEo {a : Eo} {x : Option Expr} (h : mEo nm X.N X.env.scope a x = true) (ih : ∀ b y, mE nm X.N X.env.scope b y = true → sizeOf b < sizeOf a → PE X y (tE X.K ca G call refs W b)) : PO X x (tEo X.K ca G call refs W a) := by
  cases a with
  | none =>
    unfold mEo at h
    cases x with
    | none => exact PO.weak po_none fun σ H Q ⟨e, S, P, R, q⟩ => q S H (.refl S) R
    | some x => cases h
  | some a =>
    unfold mEo at h
    cases x with
    | none => cases h
    | some x =>
      refine PO.weak (po_some (sO h (ih a x h (by simp)))) fun σ H Q ⟨e, S, P, R, q⟩ => ⟨e, S, P, R, ?_⟩
      simp only [evEo] at q
      exact (Pst.bind q).imp fun o e1 S1 H1 hs1 R1 q1 v ov => by
        obtain ⟨d, s1, q2⟩ := q1.op1 R1 ov
        obtain ⟨i, rfl, q3⟩ := asI_some q2
        exact ⟨i, see_int s1, q3 S1 H1 (.refl S1) R1⟩
theorem s_slc {a : E} {lo hi : Eo} {x : Expr} (h : mE nm X.N X.env.scope (.slc a lo hi) x = true) (ih : ∀ b y, mE nm X.N X.env.scope b y = true → sizeOf b < sizeOf (E.slc a lo hi) → PE X y (tE X.K ca G call refs W b)) : PE X x (tE X.K ca G call refs W (.slc a lo hi)) := by
  unfold mE at h
  split at h
  · split at h
    · obtain ⟨h, h4⟩ := and2 h
      obtain ⟨h, h3⟩ := and2 h
      obtain ⟨h1, h2⟩ := and2 h
      obtain rfl := Option.isNone_iff_eq_none.mp h1
      · skip
        refine PE.weak (pe_slice sl_Z (sO h2 (ih _ _ h2 (by simp; omega))) (sEo h3 fun b y m hz => ih b y m (by simp; omega)) (sEo h4 fun b y m hz => ih b y m (by simp; omega))) fun σ H Q ⟨e, S, P, R, q⟩ => ⟨e, S, P, R, ?_⟩
        simp only [evE] at q
        exact (Pst.bind q).imp fun o e1 S1 H1 hs1 R1 q1 v ov => ⟨e1, S1, P, R1, (Pst.bind q1).imp fun l e2 S2 H2 hs2 R2 q2 => ⟨e2, S2, P, R2, (Pst.bind q2).imp fun u e3 S3 H3 hs3 R3 q3 => by
          obtain ⟨d, s1, q4⟩ := q3.op1 R3 (ov.mono (hs2.trans hs3))
          exact ⟨S3, d, R3.sub, s1, q4.told R3⟩⟩⟩
    · cases h
  · cases h
theorem opn_some {α : Type} {K : PySem.W.Frag} {P : List (Addr × HO)} {σ : L2.St} {S H : Hp} {e : Env} {os : List Opd} {vs : List V} {f : List D → Res α} {J : α → Env → Hp → Hp → Prop} (R : Rel K G P e σ S H) (ov : OVs K σ S os vs)
    (h : Pst K ca G P W σ S (opn os e f) J) : ∃ ds, SeeL K S H vs ds ∧ Pst K ca G P W σ S (f ds) J := by
  unfold opn at h
  cases g : gots os e with
  | none => rw [g] at h; exact h.elim
  | some d => rw [g] at h; exact ⟨d, R.sees ov g, h⟩
theorem s_bi {b : BI} {es : Es} {x : Expr} (g : Good nm ca call j X) (h : mE nm X.N X.env.scope (.bi b es) x = true) (ih : ∀ b' y, mE nm X.N X.env.scope b' y = true → sizeOf b' < sizeOf es → PE X y (tE X.K ca G call refs W b')) : PE X x (tE X.K ca G call refs W (.bi b es)) := by
  unfold mE at h
  split at h
  · rename_i f args kw pos
    obtain ⟨h, h4⟩ := and2 h
    obtain ⟨h, h3⟩ := and2 h
    obtain ⟨h1, h2⟩ := and2 h
    obtain rfl := List.isEmpty_iff.mp h2
    obtain ⟨p, rfl, hg, hok⟩ := isNameB_ok h1
    cases args with
    | nil => cases h3
    | cons y ys =>
      have hp := sPs h4 ih
      have st : starEach (y :: ys) X.env = (y :: ys).map fun y => (false, eval y X.env) := mEs_stars h4
      have key : ∀ {Q : VK} {σ : L2.St} {H : Hp}, tE X.K ca G call refs W (.bi b es) σ H Q → tCB (rBi X.K b) (tPs X.K ca G call refs W es) σ H Q := fun {Q σ H} ⟨e, S, P, R, q⟩ => ⟨e, S, P, R, by
        simp only [evE] at q
        exact (Pst.bind q).imp fun os e1 S1 H1 hs1 R1 q1 vs ov => by
          obtain ⟨ds, sl, q2⟩ := opn_some R1 ov q1
          exact ⟨S1, ds, R1.sub, sl, q2.told R1⟩⟩
      have st1 : starEach (y :: ys) X.env = (false, eval y X.env) :: starEach ys X.env := by
        obtain ⟨y', ys', e1, m1, m2⟩ : ∃ y' ys', (y :: ys) = y' :: ys' ∧ plainX y' = true ∧ True := by
          cases es with
          | nil => have := mEs_nil h4; cases this
          | cons a r => obtain ⟨y', ys', e1, m1, m2⟩ := mEs_cons h4; exact ⟨y', ys', e1, mE_plain m1, trivial⟩
        cases e1
        exact plain_star m1 _ _
      have st2 : (backTo pos (starEach ys X.env)).any (·.1) = false := by
        have := star_any (pos := pos) st
        rw [st1] at this
        unfold backTo at this ⊢
        rw [List.map_cons, List.any_cons] at this
        simpa using this
      cases b with
      | len => exact PE.weak (pe_callB call_len_Z hg (g.free "len" (by simp [freeNames])) (by decide +kernel) hp (by decide) (by decide) st1 st2) fun σ H Q q => key q
      | abs => exact PE.weak (pe_callB call_abs_Z hg (g.free "abs" (by simp [freeNames])) (by decide +kernel) hp (by decide) (by decide) st1 st2) fun σ H Q q => key q
      | int => exact PE.weak (pe_callTy call_int_Z hg (g.free "int" (by simp [freeNames])) (by decide +kernel) hp (by decide) (by decide) st1 st2) fun σ H Q q => key q
      | str => exact PE.weak (pe_callTy call_str_Z hg (g.free "str" (by simp [freeNames])) (by decide +kernel) hp (by decide) (by decide) st1 st2) fun σ H Q q => key q
      | min => exact PE.weak (pe_callB (call_min_Z g.calm) hg (g.free "min" (by simp [freeNames])) (by decide +kernel) hp (by decide) (by decide) st1 st2) fun σ H Q q => key q
      | max => exact PE.weak (pe_callB (call_max_Z g.calm) hg (g.free "max" (by simp [freeNames])) (by decide +kernel) hp (by decide) (by decide) st1 st2) fun σ H Q q => key q
      | all => exact PE.weak (pe_callB (call_all_Z g.calm) hg (g.free "all" (by simp [freeNames])) (by decide +kernel) hp (by decide) (by decide) st1 st2) fun σ H Q q => key q
      | any => exact PE.weak (pe_callB (call_any_Z g.calm) hg (g.free "any" (by simp [freeNames])) (by decide +kernel) hp (by decide) (by decide) st1 st2) fun σ H Q q => key q
      | tuple => exact PE.weak (pe_callTy call_tup_Z hg (g.free "tuple" (by simp [freeNames])) (by decide +kernel) hp (by decide) (by decide) st1 st2) fun σ H Q q => key q
      | list => exact PE.weak (pe_callTy (call_lst_Z g.calm) hg (g.free "list" (by simp [freeNames])) (by decide +kernel) hp (by decide) (by decide) st1 st2) fun σ H Q q => key q
      | sorted =>
        exact PE.weak (pe_callB call_sort_Z hg (g.free "sorted" (by simp [freeNames])) (by decide +kernel) hp (by decide) (by decide) st1 st2) fun σ H Q q => key q
  · cases h
end
end Vm

namespace Vm
open PySem PySem.Spec PyProof.Rows L2
section
variable {nm : Nat → Str} {ca : Ex → Addr} {G : Gh} {call : CallT} {j : Nat} {refs : List Nat} {W : WX} {X : Cx}
theorem s_newd {t : Bool} {x : Expr} (h : mE nm X.N X.env.scope (.newd t) x = true) : PE X x (tE X.K ca G call refs W (.newd t)) := by
  unfold mE at h
  split at h
  · rename_i ks vs pos
    obtain ⟨h1, h2⟩ := and2 h
    obtain rfl := List.isEmpty_iff.mp h1
    obtain rfl := List.isEmpty_iff.mp h2
    cases t with
    | false =>
      refine PE.weak pe_dnewK fun σ H Q ⟨e, S, P, R, q⟩ p n => ?_
      obtain ⟨R2, F⟩ := R.fresh (u := .dK []) (d := .dk []) n ⟨[], upd_same, .nil⟩
      exact q S _ (.refl S) R2 _ ⟨p, rfl, F⟩
    | true =>
      refine PE.weak pe_dnewT fun σ H Q ⟨e, S, P, R, q⟩ p n => ?_
      obtain ⟨R2, F⟩ := R.fresh (u := .dT []) (d := .dt []) n ⟨[], upd_same, .nil⟩
      exact q S _ (.refl S) R2 _ ⟨p, rfl, F⟩
  · cases h
theorem baseB_ok {o : Expr} {m : Str} {env : PySem.Env} {w : Sem Value} (h : baseB o = true) : attributeBase o m env w = w := by
  unfold attributeBase
  split
  · cases h
  · rfl
theorem line_ok {a b : Nat} (h : (a == b) = true) : (a == b) = true := h
theorem rcv_str {m : MT} {K : PySem.W.Frag} {S H : Hp} {v : V} {d : D} (hm : m ≠ .get) (hm2 : m ≠ .index) (s : See K S H v d) (h : rcv m d = true) : ∃ z, v = .str z := by
  cases d with
  | str z => exact ⟨z, see_str s⟩
  | _ => cases m <;> first | exact absurd rfl hm | exact absurd rfl hm2 | cases h
theorem see_isD {K : PySem.W.Frag} {S H : Hp} {v : V} {d : D} (s : See K S H v d) (h : rcv .get d = true) : ∃ a, v = .ref a ∧ IsD H a := by
  cases d with
  | dk l => obtain ⟨a, vs, rfl, ha, _⟩ := s; exact ⟨a, rfl, .inl ⟨_, .inl ha⟩⟩
  | dt l => obtain ⟨a, vs, rfl, ha, _⟩ := s; exact ⟨a, rfl, .inr ⟨_, .inl ha⟩⟩
  | _ => cases h
theorem strs_told {K : PySem.W.Frag} {S H : Hp} {Q : VK} {ys : List Str} (hs : Sub S H) (h : Told K S H Q (some (.lst (ys.map .str)))) : rNewStrs ys H Q := told_lst hs h (RepL.strs ys)
/-- a text's method -/
theorem m1_core {m : MT} {r : E} {es : Es} {e : Env} {S H : Hp} {P : List (Addr × HO)} {σ : L2.St} {Q : VK} {rule : V → List V → Hp → VK → Prop} {t : E} (hm : m ≠ .get) (hm2 : m ≠ .index) (hes : es = .cons t .nil)
    (hr : ∀ {S H : Hp} {v w : V} {d d' : D} {Q : VK}, Sub S H → See X.K S H v d → Rep X.K S w d' → Told X.K S H Q (mthD m d [d']) → rule v [w] H Q)
    (R : Rel X.K G P e σ S H) (q : Pst X.K ca G P W σ S (evE call refs (.mth m r es) e) fun p e' S' H' => ∀ v, RV X.K G P e' σ S' H' p v → Q v H') : tM1 rule (tO X.K ca G call refs W r) (tE X.K ca G call refs W t) σ H Q := by
  subst hes
  refine ⟨e, S, P, R, ?_⟩
  simp only [evE] at q
  exact (Pst.bind q).imp fun o e1 S1 H1 hs1 R1 q1 v ov => by
    obtain ⟨d, s1, q2⟩ := q1.op1 R1 ov
    by_cases hrc : rcv m d = true
    · rw [if_pos hrc] at q2
      refine ⟨rcv_str hm hm2 s1 hrc, e1, S1, P, R1, ?_⟩
      simp only [evEs, Res.bind_assoc] at q2
      exact (Pst.bind q2).imp fun p e2 S2 H2 hs2 R2 q3 w rv => by
        obtain ⟨S3, hs3, R3, r3⟩ := R2.rep rv
        obtain ⟨d', s2, q5⟩ := (Pst.mono hs3 q3).op1 R3 (ov.mono (hs2.trans hs3))
        refine hr R3.sub s2 r3 ?_
        cases m with
        | get => exact absurd rfl hm
        | index => exact absurd rfl hm2
        | _ => exact q5.told R3
    · rw [if_neg hrc] at q2; exact q2.elim
theorem found_idx {ns : List Int} {k : Int} {j : Nat} (h : ns.findIdx? (· == k) = some j) : k ∈ ns ∧ ns.idxOf k = j := by
  have e : ns.idxOf? k = some j := h
  obtain ⟨hj, h1, _⟩ := List.findIdx?_eq_some_iff_getElem.mp h
  have hk : ns[j] = k := by simpa using h1
  refine ⟨by rw [← hk]; exact List.getElem_mem hj, ?_⟩
  unfold List.idxOf
  rw [List.findIdx_eq_getD_findIdx?, h]; rfl
theorem s_mth {m : MT} {r : E} {es : Es} {x : Expr} (g : Good nm ca call j X) (h : mE nm X.N X.env.scope (.mth m r es) x = true) (ih : ∀ b y, mE nm X.N X.env.scope b y = true → sizeOf b < sizeOf (E.mth m r es) → PE X y (tE X.K ca G call refs W b)) : PE X x (tE X.K ca G call refs W (.mth m r es)) := by
  have hu : X.A.units + 1 < cLine := by have := g.room.un; omega
  unfold mE at h
  split at h
  · split at h
    · rename_i kw pos _ o name apos
      obtain ⟨h, h6⟩ := and2 h
      obtain ⟨h, h5⟩ := and2 h
      obtain ⟨h, hok⟩ := and2 h
      obtain ⟨h, h4⟩ := and2 h
      obtain ⟨h, h3⟩ := and2 h
      obtain ⟨h1, h2⟩ := and2 h
      obtain rfl := of_decide_eq_true h1
      obtain rfl := List.isEmpty_iff.mp h4
      have po := sO h5 (ih _ _ h5 (by simp; omega))
      have hb : attributeBase o (mthName m) X.env (eval o X.env) = eval o X.env := baseB_ok h3
      cases m with
      | index =>
        cases es with
        | nil => cases hok
        | cons a r2 => cases r2 with
          | cons _ _ => cases hok
          | nil =>
            obtain ⟨y, ys, rfl, m1, h6⟩ := mEs_cons h6
            obtain rfl := mEs_nil h6
            refine PE.weak (pe_idxZ (by have := g.room.un; omega) po (ih _ _ m1 (by simp; omega)) hb h2 (plain_star (mE_plain m1) _ _)) fun σ H Q ⟨e, S, P, R, q⟩ => ⟨e, S, P, R, ?_⟩
            simp only [evE] at q
            exact (Pst.bind q).imp fun o e1 S1 H1 hs1 R1 q1 v ov => by
              obtain ⟨d, s1, q2⟩ := q1.op1 R1 ov
              by_cases hrc : rcv .index d = true
              · rw [if_pos hrc] at q2
                simp only [evEs, Res.bind_assoc] at q2
                cases d with
                | tup l =>
                  obtain ⟨a', vs', rfl, ha', ra'⟩ := see_tup s1
                  have hl2 : 2 < l.length := of_decide_eq_true hrc
                  obtain ⟨oo, od, hS⟩ := ha'.high (by rw [ra'.length]; omega)
                  refine .inl ⟨⟨a', oo, vs', rfl, od, R1.sub _ _ hS⟩, e1, S1, P, R1, (Pst.bind q2).imp fun p e2 S2 H2 hs2 R2 q3 w rv => ?_⟩
                  obtain ⟨S3, hs3, R3, r3⟩ := R2.rep rv
                  obtain ⟨d', s2, q5⟩ := (Pst.mono hs3 q3).op1 R3 (ov.mono (hs2.trans hs3))
                  split at q5
                  rotate_left
                  · exact q5.elim
                  rename_i hkd
                  obtain ⟨d3, e3, q6⟩ := told_some (q5.told R3)
                  replace e3 : indexD d' p.2 = some d3 := e3
                  cases d' with
                  | tup l' =>
                    obtain ⟨a2, vs2, e4, ha2, ra2⟩ := see_tup s2
                    cases e4
                    unfold indexD at e3
                    dsimp only at e3
                    split at e3
                    · rename_i k hk
                      rw [hk] at r3
                      cases r3
                      simp only [Option.bind_eq_some_iff, Option.map_eq_some_iff] at e3
                      obtain ⟨ns, h7, j', h8, rfl⟩ := e3
                      obtain rfl := ra2.asInts h7
                      obtain ⟨k1, k2⟩ := found_idx h8
                      exact ⟨a', ns, k, rfl, rfl, ha2.sq R3.sub, k1, by rw [k2]; exact told_int R3.sub q6⟩
                    · cases e3
                  | lst l' =>
                    obtain ⟨a2, vs2, e4, ha2, _⟩ := s2
                    cases e4
                    rw [R3.sub _ _ (hs3 _ _ (hs2 _ _ hS))] at ha2; cases ha2
                  | _ => cases e3
                | lst l =>
                  obtain ⟨a', vs', rfl, ha', ra'⟩ := s1
                  refine .inr ⟨.inl ⟨rfl, _, .of ha'⟩, e1, S1, P, R1, (Pst.bind q2).imp fun p e2 S2 H2 hs2 R2 q3 w rv => ?_⟩
                  obtain ⟨S3, hs3, R3, r3⟩ := R2.rep rv
                  obtain ⟨d', s2, q5⟩ := (Pst.mono hs3 q3).op1 R3 (ov.mono (hs2.trans hs3))
                  split at q5
                  rotate_left
                  · exact q5.elim
                  rename_i hkd
                  obtain ⟨d3, e3, q6⟩ := told_some (q5.told R3)
                  replace e3 : indexD d' p.2 = some d3 := e3
                  cases d' with
                  | lst l' =>
                    unfold indexD at e3
                    dsimp only at e3
                    split at e3
                    · rename_i x ys h8 h9
                      split at e3
                      · rename_i hsh
                        simp only [Option.map_eq_some_iff] at e3
                        obtain ⟨j', h10, rfl⟩ := e3
                        obtain ⟨hj, h11, h12⟩ := List.findIdx?_eq_some_iff_getElem.mp h10
                        refine ⟨a', w, x, ys, j', ys[j'], rfl, rfl, s2.py R3.sub (by simp only [Vm.py, h9, Option.map_some]), r3.py R3.sub h8, hsh.2, hsh.1, List.getElem?_eq_getElem hj, h11, fun m z' hm hz => ?_, told_int R3.sub q6⟩
                        obtain ⟨hm2, rfl⟩ := List.getElem?_eq_some_iff.mp hz
                        simpa using h12 m hm
                      · cases e3
                    · cases e3
                  | tup l' =>
                    cases hkd
                  | _ => cases e3
                | _ => cases hrc
              · rw [if_neg hrc] at q2; exact q2.elim
      | get =>
        cases es with
        | nil => cases hok
        | cons a r2 => cases r2 with
          | nil => cases hok
          | cons b r3 => cases r3 with
            | cons _ _ => cases hok
            | nil =>
              obtain ⟨y, ys, rfl, m1, h6⟩ := mEs_cons h6
              obtain ⟨z, zs, rfl, m2, h6⟩ := mEs_cons h6
              obtain rfl := mEs_nil h6
              have st : starEach [y, z] X.env = [(false, eval y X.env), (false, eval z X.env)] := by
                rw [plain_star (mE_plain m1), plain_star (mE_plain m2)]; rfl
              have M : M2 X o "get" apos y z pos := ⟨hb, by rw [st]; rfl, h2, by rw [st]; rfl⟩
              refine PE.weak (pe_dget2 hu po (ih _ _ m1 (by simp; omega)) (ih _ _ m2 (by simp; omega)) M) fun σ H Q ⟨e, S, P, R, q⟩ => ⟨e, S, P, R, ?_⟩
              simp only [evE] at q
              exact (Pst.bind q).imp fun o e1 S1 H1 hs1 R1 q1 v ov => by
                obtain ⟨d, s1, q2⟩ := q1.op1 R1 ov
                by_cases hrc : rcv .get d = true
                · rw [if_pos hrc] at q2
                  obtain ⟨a', rfl, isd⟩ := see_isD s1 hrc
                  refine ⟨a', rfl, isd, e1, S1, P, R1, ?_⟩
                  simp only [evEs, Res.bind_assoc] at q2
                  exact (Pst.bind q2).imp fun p e2 S2 H2 hs2 R2 q3 w rv => by
                    obtain ⟨S3, hs3, R3, r3⟩ := R2.rep rv
                    refine ⟨e2, S3, P, R3, ?_⟩
                    have q4 := Pst.mono hs3 q3
                    exact (Pst.bind q4).imp fun p' e4 S4 H4 hs4 R4 q5 w' rv' => by
                      obtain ⟨S5, hs5, R5, r5⟩ := R4.rep rv'
                      obtain ⟨d', s2, q6⟩ := (Pst.mono hs5 q5).op1 R5 (ov.mono (hs2.trans (hs3.trans (hs4.trans hs5))))
                      simp only [mthD] at q6
                      cases hd : dget d' p.2 with
                      | none => 
                        rw [hd] at q6; exact q6.elim
                      | some oo =>
                        rw [hd] at q6
                        have r3' := (r3.mono (hs4.trans hs5)).see R5.sub
                        obtain ⟨a2, ov2, e3, g2, ho⟩ := s2.dget R5.sub r3' hd
                        cases e3
                        refine ⟨ov2, g2, ?_⟩
                        cases oo with
                        | none =>
                          have ho : ov2 = none := ho
                          subst ho
                          exact q6 S5 H4 (.refl S5) R5 _ r5
                        | some dd =>
                          obtain ⟨vv, rfl, rr⟩ := ho
                          exact q6 S5 H4 (.refl S5) R5 _ rr
                · rw [if_neg hrc] at q2; exact q2.elim
      | split =>
        cases es with
        | nil => cases hok
        | cons a r2 => cases r2 with
          | cons _ _ => cases hok
          | nil =>
            obtain ⟨y, ys, rfl, m1, h6⟩ := mEs_cons h6
            obtain rfl := mEs_nil h6
            refine PE.weak (pe_split po (ih _ _ m1 (by simp; omega)) (plain_star (mE_plain m1) _ _) hb h2) fun σ H Q ⟨e, S, P, R, q⟩ => m1_core (by decide) (by decide) rfl (fun {S H v w d d' Q} hs s r t => ?_) R q
            cases d with
            | str a' => cases d' with
              | str b' =>
                obtain rfl := see_str s
                cases r
                by_cases hz : (b'.length == 0) = false ∧ a'.length + 2 ≤ 16777216
                · simp only [mthD, if_pos hz] at t
                  exact ⟨a', b', rfl, rfl, hz.1, by rw [line_eq]; exact hz.2, strs_told hs t⟩
                · simp only [mthD, if_neg hz] at t; exact t.elim
              | _ => exact t.elim
            | _ => exact t.elim
      | startswith =>
        cases es with
        | nil => cases hok
        | cons a r2 => cases r2 with
          | cons _ _ => cases hok
          | nil =>
            obtain ⟨y, ys, rfl, m1, h6⟩ := mEs_cons h6
            obtain rfl := mEs_nil h6
            refine PE.weak (pe_m1 F.slot_str_startswith F.type_str_startswith mt_startswith po (ih _ _ m1 (by simp; omega)) (plain_star (mE_plain m1) _ _) hb h2) fun σ H Q ⟨e, S, P, R, q⟩ => m1_core (by decide) (by decide) rfl (fun {S H v w d d' Q} hs s r t => ?_) R q
            cases d with
            | str a' => cases d' with
              | str b' =>
                obtain rfl := see_str s
                cases r
                exact ⟨a', b', rfl, rfl, told_bl hs t⟩
              | _ => exact t.elim
            | _ => exact t.elim
      | join =>
        cases es with
        | nil => cases hok
        | cons a r2 => cases r2 with
          | cons _ _ => cases hok
          | nil =>
            obtain ⟨y, ys, rfl, m1, h6⟩ := mEs_cons h6
            obtain rfl := mEs_nil h6
            refine PE.weak (pe_join po (ih _ _ m1 (by simp; omega)) (plain_star (mE_plain m1) _ _) hb h2) fun σ H Q ⟨e, S, P, R, q⟩ => m1_core (by decide) (by decide) rfl (fun {S H v w d d' Q} hs s r t => ?_) R q
            cases d with
            | str a' => cases d' with
              | lst l =>
                obtain rfl := see_str s
                cases r with
                | lst ha ra =>
                  simp only [mthD] at t
                  cases hy : asStrs l with
                  | none => rw [hy] at t; exact t.elim
                  | some ys =>
                    rw [hy] at t
                    obtain rfl := ra.asStrs hy
                    by_cases hz : (ys.map (·.length)).sum + ys.length * a'.length ≤ 16777216
                    · simp only [Option.bind, if_pos hz] at t
                      exact ⟨a', _, ys, rfl, rfl, .inl (.of (hs _ _ ha)), hz, told_str hs t⟩
                    · simp only [Option.bind, if_neg hz] at t; exact t.elim
              | _ => exact t.elim
            | _ => exact t.elim
    · cases h
  · cases h
end
end Vm

namespace Vm
open PySem PySem.Spec PyProof.Rows L2
section
variable {nm : Nat → Str} {ca : Ex → Addr} {G : Gh} {call : CallT} {j : Nat} {refs : List Nat} {W : WX} {X : Cx}
def dTy : D → String
  | .non => "NoneType" | .bl _ => "bool" | .int _ => "int" | .str _ => "str" | .tup _ => "tuple" | .lst _ => "list" | .sc _ => "?" | .dk _ => "dict" | .dt _ => "dict"
theorem isiD_tup (l : List D) (t : Ty) : isiD (.tup l) t = if l.length ≤ 2 then some (decide (t = .tuple)) else none := by cases t <;> rfl
theorem isi_ty {K : PySem.W.Frag} {S H : Hp} (hs : Sub S H) {v : V} {d : D} {t : Ty} {b : Bool} (s : See K S H v d) (h : isiD d t = some b) : TyX K H v (.type (dTy d)) := by
  cases d with
  | non => obtain rfl := see_non s; exact .base .non
  | bl b => obtain rfl := see_bl s; exact .base (.bl _)
  | int b => obtain rfl := see_int s; exact .base (.int _)
  | str b => obtain rfl := see_str s; exact .base (.str _)
  | tup b =>
    obtain ⟨a, vs, rfl, ha, ra⟩ := see_tup s
    have hl : b.length ≤ 2 := by
      rw [isiD_tup] at h
      split at h
      · assumption
      · cases h
    exact .base (.tup (hs _ _ (ha.low (by rw [ra.length]; exact hl))))
  | lst b => obtain ⟨a, vs, rfl, ha, _⟩ := s; exact .base (.lst ha)
  | _ => cases t <;> cases h
theorem isi_kit {d : D} {t : Ty} {b : Bool} (h : isiD d t = some b) : kitB (dTy d) (tyName t) = some b := by
  have k1 : ∀ t, kitB "NoneType" (tyName t) = some false := by intro t; cases t <;> decide +kernel
  have k2 : kitB "bool" "bool" = some true ∧ kitB "bool" "int" = some true ∧ kitB "bool" "str" = some false ∧ kitB "bool" "tuple" = some false ∧ kitB "bool" "list" = some false := by decide +kernel
  have k3 : kitB "int" "bool" = some false ∧ kitB "int" "int" = some true ∧ kitB "int" "str" = some false ∧ kitB "int" "tuple" = some false ∧ kitB "int" "list" = some false := by decide +kernel
  have k4 : kitB "str" "bool" = some false ∧ kitB "str" "int" = some false ∧ kitB "str" "str" = some true ∧ kitB "str" "tuple" = some false ∧ kitB "str" "list" = some false := by decide +kernel
  have k5 : kitB "tuple" "bool" = some false ∧ kitB "tuple" "int" = some false ∧ kitB "tuple" "str" = some false ∧ kitB "tuple" "tuple" = some true ∧ kitB "tuple" "list" = some false := by decide +kernel
  have k6 : kitB "list" "bool" = some false ∧ kitB "list" "int" = some false ∧ kitB "list" "str" = some false ∧ kitB "list" "tuple" = some false ∧ kitB "list" "list" = some true := by decide +kernel
  cases d with
  | non => cases h; exact k1 t
  | bl x => cases t <;> cases h <;> simp [dTy, tyName, k2]
  | int x => cases t <;> cases h <;> simp [dTy, tyName, k3]
  | str x => cases t <;> cases h <;> simp [dTy, tyName, k4]
  | tup x =>
    rw [isiD_tup] at h
    split at h
    · cases t <;> cases h <;> simp [dTy, tyName, k5]
    · cases h
  | lst x => cases t <;> cases h <;> simp [dTy, tyName, k6]
  | _ => cases t <;> cases h
theorem s_isi {a : E} {t : Ty} {x : Expr} (g : Good nm ca call j X) (h : mE nm X.N X.env.scope (.isi a t) x = true) (ih : ∀ y, mE nm X.N X.env.scope a y = true → PE X y (tE X.K ca G call refs W a)) : PE X x (tE X.K ca G call refs W (.isi a t)) := by
  unfold mE at h
  split at h
  · rename_i f args kw pos
    obtain ⟨h, h3⟩ := and2 h
    obtain ⟨h1, h2⟩ := and2 h
    obtain rfl := List.isEmpty_iff.mp h2
    obtain ⟨p, rfl, hg, hok⟩ := isNameB_ok h1
    split at h3
    · rename_i y c
      obtain ⟨h4, h5⟩ := and2 h3
      obtain ⟨p', rfl, hg', hok'⟩ := isNameB_ok h5
      have pc : PE X (.Name (tyStr t) p') (tC (.ty (tyName t))) := by
        cases t with
        | str => exact pe_bltn hg' (g.free "str" (by simp [freeNames])) (u := .type "str") (by decide +kernel) rfl (by decide) (by decide)
        | int => exact pe_bltn hg' (g.free "int" (by simp [freeNames])) (u := .type "int") (by decide +kernel) rfl (by decide) (by decide)
        | bool => exact pe_bltn hg' (g.free "bool" (by simp [freeNames])) (u := .type "bool") (by decide +kernel) rfl (by decide) (by decide)
        | tuple => exact pe_bltn hg' (g.free "tuple" (by simp [freeNames])) (u := .type "tuple") (by decide +kernel) rfl (by decide) (by decide)
        | list => exact pe_bltn hg' (g.free "list" (by simp [freeNames])) (u := .type "list") (by decide +kernel) rfl (by decide) (by decide)
      have st := plain_star (mE_plain h4) [Expr.Name (tyStr t) p'] X.env
      refine PE.weak (pe_callB call_isi hg (g.free "isinstance" (by simp [freeNames])) (by decide +kernel) (pa_cons (sO h4 (ih _ h4)) (pa_cons pc pa_nil) st) (by decide) (by decide) st) fun σ H Q ⟨e, S, P, R, q⟩ => ⟨e, S, P, R, ?_⟩
      simp only [evE] at q
      exact (Pst.bind q).imp fun o e1 S1 H1 hs1 R1 q1 v ov => by
        obtain ⟨d, s1, q2⟩ := q1.op1 R1 ov
        cases hd : isiD d t with
        | none => rw [hd] at q2; exact q2.elim
        | some b =>
          rw [hd] at q2
          exact ⟨v, _, _, _, b, rfl, .ty _, isi_ty R1.sub s1 hd, kit_ty (isi_kit hd), q2 S1 H1 (.refl S1) R1 _ (.bl b)⟩
    · cases h3
  · cases h
theorem s_lset {a : E} {x : Expr} (g : Good nm ca call j X) (h : mE nm X.N X.env.scope (.lset a) x = true) (ih : ∀ y, mE nm X.N X.env.scope a y = true → PE X y (tE X.K ca G call refs W a)) : PE X x (tE X.K ca G call refs W (.lset a)) := by
  unfold mE at h
  split at h
  · rename_i f args kw pos
    obtain ⟨h, h3⟩ := and2 h
    obtain ⟨h1, h2⟩ := and2 h
    obtain rfl := List.isEmpty_iff.mp h2
    obtain ⟨p, rfl, hg, hok⟩ := isNameB_ok h1
    split at h3
    · rename_i y
      split at h3
      · rename_i f2 args2 kw2 pos2
        obtain ⟨h3, h6⟩ := and2 h3
        obtain ⟨h4, h5⟩ := and2 h3
        obtain rfl := List.isEmpty_iff.mp h5
        obtain ⟨p2, rfl, hg2, hok2⟩ := isNameB_ok h4
        split at h6
        · rename_i z
          refine PE.weak (pe_lenSetZ hg (g.free "len" (by simp [freeNames])) hg2 (g.free "set" (by simp [freeNames])) (sO h6 (ih _ h6)) g.calm (plain_star (mE_plain h6) _ _)) fun σ H Q ⟨e, S, P, R, q⟩ => ⟨e, S, P, R, ?_⟩
          simp only [evE] at q
          exact (Pst.bind q).imp fun o e1 S1 H1 hs1 R1 q1 v ov => by
            obtain ⟨d, s1, q2⟩ := q1.op1 R1 ov
            obtain ⟨d3, e3, q6⟩ := told_some (q2.told R1)
            have fin : ∀ {l : List D} {vs : List V} {a : Addr}, v = .ref a → RepL X.K S1 vs l → (SqL X.K H1 a vs ∨ SqT X.K H1 a vs) → nset l = some d3 → rLenSet X.K v H1 Q := fun {l vs a} ev r hq e => by
              unfold nset at e
              simp only [Option.bind_eq_some_iff] at e
              obtain ⟨ns, h7, e⟩ := e
              split at e
              · rename_i hz
                cases e
                obtain rfl := r.asInts h7
                exact ⟨a, ns, ev, hq, hz, told_int R1.sub q6⟩
              · cases e
            cases d with
            | tup l =>
              obtain ⟨a', vs', e4, ha', ra'⟩ := see_tup s1
              exact fin e4 ra' (.inr (ha'.sq R1.sub)) e3
            | lst l =>
              obtain ⟨a', vs', e4, ha', ra'⟩ := s1
              exact fin e4 ra' (.inl (.of ha')) e3
            | _ => cases e3
        · cases h6
      · cases h3
    · cases h3
  · cases h
theorem op2_some {α : Type} {K : PySem.W.Frag} {P : List (Addr × HO)} {σ : L2.St} {S H : Hp} {e : Env} {o p : Opd} {v w : V} {f : D → D → Res α} {J : α → Env → Hp → Hp → Prop} (R : Rel K G P e σ S H) (ov : OV K σ S o v) (ow : OV K σ S p w)
    (h : Pst K ca G P W σ S (op2 o p e f) J) : ∃ d d', See K S H v d ∧ See K S H w d' ∧ Pst K ca G P W σ S (f d d') J := by
  unfold op2 at h
  cases g : got o e with
  | none => rw [g] at h; exact h.elim
  | some d => cases g2 : got p e with
    | none => rw [g, g2] at h; exact h.elim
    | some d' => rw [g, g2] at h; exact ⟨d, d', R.see ov g, R.see ow g2, h⟩
theorem s_bid {b : BI} {a d : E} {x : Expr} (g : Good nm ca call j X) (h : mE nm X.N X.env.scope (.bid b a d) x = true) (iha : ∀ y, mE nm X.N X.env.scope a y = true → PE X y (tE X.K ca G call refs W a)) (ihd : ∀ y, mE nm X.N X.env.scope d y = true → PE X y (tE X.K ca G call refs W d)) : PE X x (tE X.K ca G call refs W (.bid b a d)) := by
  unfold mE at h
  split at h
  · rename_i f args kw pos
    obtain ⟨h, h4⟩ := and2 h
    obtain ⟨h, h3⟩ := and2 h
    obtain ⟨h1, h2⟩ := and2 h
    obtain ⟨p, rfl, hg, hok⟩ := isNameB_ok h1
    clear h h1
    split at h3
    · rename_i y hh
      split at h4
      · rename_i nm' z kp
        obtain ⟨h5, h6⟩ := and2 h4
        have h5 := of_decide_eq_true h5
        subst h5
        have st := plain_star (mE_plain h3) [] X.env
        have key : ∀ {Q : VK} {σ : L2.St} {H : Hp} (rule : List V → List V → Hp → VK → Prop), (∀ {S H : Hp} {v w : V} {d1 d2 : D} {Q : VK}, Sub S H → See X.K S H v d1 → See X.K S H w d2 → Told X.K S H Q (bidD b d1 d2) → rule [v] [w] H Q) →
            tE X.K ca G call refs W (.bid b a d) σ H Q → tCKw rule (tCons (tO X.K ca G call refs W a) tNil) (tCons (tO X.K ca G call refs W d) tNil) σ H Q := fun {Q σ H} rule hr ⟨e, S, P, R, q⟩ => ⟨e, S, P, R, by
          simp only [evE] at q
          exact (Pst.bind q).imp fun o e1 S1 H1 hs1 R1 q1 v ov => ⟨e1, S1, P, R1, (Pst.bind q1).imp fun o2 e2 S2 H2 hs2 R2 q2 w ow => by
            obtain ⟨d1, d2, s1, s2, q3⟩ := op2_some R2 (ov.mono hs2) ow q2
            exact hr R2.sub s1 s2 (q3.told R2)⟩⟩
        have pk : PK X [⟨some "default", z, kp⟩] (tCons (tO X.K ca G call refs W d) tNil) := pk_cons (sO h6 (ihd _ h6)) pk_nil
        have pa : PA X [y] (tCons (tO X.K ca G call refs W a) tNil) := pa_cons (sO h3 (iha _ h3)) pa_nil st
        have e1 : backTo pos (starEach [y] X.env) = (false, eval y X.env) :: backTo pos (starEach [] X.env) := by rw [st]; rfl
        have e2 : (backTo pos (starEach [y] X.env)).any (·.1) = false := by rw [st]; rfl
        have fin : ∀ {S H : Hp} {v w : V} {d1 d2 : D} {Q : VK} (f : List Int → Int → Int), Sub S H → See X.K S H v d1 → See X.K S H w d2 → ∀ d3, Told X.K S H Q (some d3) → (match d1, d2 with | .lst l, .int k => (asInts l).map fun ns => D.int (f ns k) | _, _ => none) = some d3 →
            ∃ (a : Addr) (ns : List Int) (k : Int), v = .ref a ∧ w = .int k ∧ SqL X.K H a (ns.map V.int) ∧ Q (.int (f ns k)) H := fun {S H v w d1 d2 Q} f hs s1 s2 d3 t e => by
          split at e
          · rename_i l k
            obtain ⟨a', vs', rfl, ha', ra'⟩ := s1
            obtain rfl := see_int s2
            simp only [Option.map_eq_some_iff] at e
            obtain ⟨ns, h7, rfl⟩ := e
            obtain rfl := ra'.asInts h7
            exact ⟨a', ns, k, rfl, rfl, .of ha', told_int hs t⟩
          · cases e
        cases b with
        | max =>
          refine PE.weak (pe_callBK (cr_maxD g.calm) hg (g.free "max" (by simp [freeNames])) (by decide +kernel) pa pk (by decide) (by decide) e1 e2) fun σ H Q q => key (rMaxD X.K) (fun {S H v w d1 d2 Q} hs s1 s2 t => ?_) q
          obtain ⟨d3, e3, t⟩ := told_some t
          obtain ⟨a', ns, k, rfl, rfl, hq, q3⟩ := fin (fun ns k => match ns with | [] => k | a :: r => maxL a r) hs s1 s2 d3 t (by
            cases d1 <;> first | (cases e3; done) | (cases d2 <;> first | (cases e3; done) | exact e3))
          refine ⟨a', ns, k, rfl, rfl, hq, fun z => by subst z; exact q3, fun m hm hle => ?_⟩
          cases ns with
          | nil => cases hm
          | cons n ns => rw [maxL_only hm hle]; exact q3
        | min =>
          refine PE.weak (pe_callBK (cr_minD g.calm) hg (g.free "min" (by simp [freeNames])) (by decide +kernel) pa pk (by decide) (by decide) e1 e2) fun σ H Q q => key (rMinD X.K) (fun {S H v w d1 d2 Q} hs s1 s2 t => ?_) q
          obtain ⟨d3, e3, t⟩ := told_some t
          obtain ⟨a', ns, k, rfl, rfl, hq, q3⟩ := fin (fun ns k => match ns with | [] => k | a :: r => minL a r) hs s1 s2 d3 t (by
            cases d1 <;> first | (cases e3; done) | (cases d2 <;> first | (cases e3; done) | exact e3))
          refine ⟨a', ns, k, rfl, rfl, hq, fun z => by subst z; exact q3, fun m hm hle => ?_⟩
          cases ns with
          | nil => cases hm
          | cons n ns => rw [minL_only hm hle]; exact q3
        | _ => simp at h2
      · cases h4
    · cases h3
  · cases h
theorem repRng {K : PySem.W.Frag} {S : Hp} (a : Int) : ∀ (l : List Nat), RepL K S (l.map fun i => V.int (a + (i : Nat))) (l.map fun i => D.int (a + (i : Nat)))
  | [] => .nil
  | _ :: r => .cons (.int _) (repRng a r)
theorem s_lrng {t : Bool} {es : Es} {x : Expr} (g : Good nm ca call j X) (h : mE nm X.N X.env.scope (.lrng t es) x = true) (ih : ∀ b' y, mE nm X.N X.env.scope b' y = true → sizeOf b' < sizeOf es → PE X y (tE X.K ca G call refs W b')) : PE X x (tE X.K ca G call refs W (.lrng t es)) := by
  unfold mE at h
  split at h
  · rename_i f args kw pos
    obtain ⟨h, h3⟩ := and2 h
    obtain ⟨h1, h2⟩ := and2 h
    obtain rfl := List.isEmpty_iff.mp h2
    obtain ⟨p, rfl, hg, hok⟩ := isNameB_ok h1
    split at h3
    · rename_i y
      split at h3
      · rename_i f2 args2 kw2 pos2
        obtain ⟨h3, h7⟩ := and2 h3
        obtain ⟨h3, h6⟩ := and2 h3
        obtain ⟨h4, h5⟩ := and2 h3
        obtain rfl := List.isEmpty_iff.mp h5
        obtain ⟨p2, rfl, hg2, hok2⟩ := isNameB_ok h4
        have fr := g.free "range" (by simp [freeNames])
        -- the range, by what is told
        have rg : ∃ te : L2.St → Hp → (Int → Int → Hp → Prop) → Prop, PRg X (.Call (.Name "range" p2) args2 [] pos2) te ∧ ∀ σ H (Q : VK) (Z : Int → Int → Hp → Prop), tE X.K ca G call refs W (.lrng t es) σ H Q → (∀ a b H1, RgOk a b → (∃ e S P, Rel X.K G P e σ S H1 ∧
            Pst X.K ca G P W σ S (if t = true then Res.ok (false, D.tup (rngL a (b - a).toNat)) e else .ok (true, .lst (rngL a (b - a).toNat)) e) fun p e' S' H' => ∀ v, RV X.K G P e' σ S' H' p v → Q v H') → Z a b H1) → te σ H Z := by
          cases es with
          | nil => cases h6
          | cons a r => cases r with
            | nil =>
              obtain ⟨y1, ys, rfl, m1, h7⟩ := mEs_cons h7
              obtain rfl := mEs_nil h7
              refine ⟨_, prg_1 hg2 fr (sO m1 (ih a y1 m1 (by simp; omega))) (plain_star (mE_plain m1) _ _), fun σ H Q Z ⟨e, S, P, R, q⟩ kz => ⟨e, S, P, R, ?_⟩⟩
              simp only [evE, evPs, Res.bind_assoc] at q
              exact (Pst.bind q).imp fun o e1 S1 H1 hs1 R1 q1 v ov => by
                have q1 : Pst X.K ca G P W σ S1 (opn [o] e1 fun l => if rngOk (.cons a .nil) l = true then (ofO (rngD l) e1).bind fun l e => if t then Res.ok (false, D.tup l) e else .ok (true, .lst l) e else .bad) (fun p e' S' H' => ∀ v, RV X.K G P e' σ S' H' p v → Q v H') := q1
                obtain ⟨ds, sl, q2⟩ := opn_some R1 (.cons ov .nil) q1
                split at q2
                case isFalse => exact q2.elim
                rename_i hrk
                unfold rngD at q2
                split at q2
                · rename_i n
                  by_cases hn : n.toNat < 2 ^ 20 ∧ (-n).toNat ≤ 2 ^ 61
                  · rw [if_pos hn] at q2
                    obtain ⟨v', e1', s1⟩ := sl.one
                    cases e1'
                    obtain rfl := see_int s1
                    refine ⟨n, rfl, kz 0 n H1 ⟨by omega, by omega, by omega, by omega, by omega⟩ ⟨e1, S1, P, R1, ?_⟩⟩
                    rw [Int.sub_zero]
                    exact q2
                  · rw [if_neg hn] at q2; exact q2.elim
                · cases hrk
                · exact q2.elim
            | cons b r => cases r with
              | cons _ _ => cases h6
              | nil =>
                obtain ⟨y1, ys, rfl, m1, h7⟩ := mEs_cons h7
                obtain ⟨y2, ys, rfl, m2, h7⟩ := mEs_cons h7
                obtain rfl := mEs_nil h7
                have st2 := plain_star (mE_plain m2) [] X.env
                refine ⟨_, prg_2 hg2 fr (sO m1 (ih a y1 m1 (by simp; omega))) (sO m2 (ih b y2 m2 (by simp; omega))) (plain_star (mE_plain m1) _ _) st2 (by rw [st2]; rfl), fun σ H Q Z ⟨e, S, P, R, q⟩ kz => ⟨e, S, P, R, ?_⟩⟩
                simp only [evE, evPs, Res.bind_assoc] at q
                exact (Pst.bind q).imp fun o e1 S1 H1 hs1 R1 q1 v ov => ⟨e1, S1, P, R1, (Pst.bind q1).imp fun o2 e2 S2 H2 hs2 R2 q2 w ow => by
                  have q2 : Pst X.K ca G P W σ S2 (opn [o, o2] e2 fun l => if rngOk (.cons a (.cons b .nil)) l = true then (ofO (rngD l) e2).bind fun l e => if t then Res.ok (false, D.tup l) e else .ok (true, .lst l) e else .bad) (fun p e' S' H' => ∀ v, RV X.K G P e' σ S' H' p v → Q v H') := q2
                  obtain ⟨ds, sl, q3⟩ := opn_some R2 (.cons (ov.mono hs2) (.cons ow .nil)) q2
                  split at q3
                  case isFalse => exact q3.elim
                  rename_i hrk
                  unfold rngD at q3
                  split at q3
                  · cases hrk
                  · rename_i n m
                    by_cases hn : (n.natAbs < 2 ^ 60 ∧ m.natAbs < 2 ^ 60) ∧ (m - n).toNat < 2 ^ 20
                    · rw [if_pos hn] at q3
                      obtain ⟨v', w', e1', s1, s2⟩ := sl.two
                      cases e1'
                      obtain rfl := see_int s1
                      obtain rfl := see_int s2
                      exact ⟨n, m, rfl, rfl, kz n m H2 ⟨by omega, by omega, by omega, by omega, by omega⟩ ⟨e2, S2, P, R2, q3⟩⟩
                    · rw [if_neg hn] at q3; exact q3.elim
                  · exact q3.elim⟩
        obtain ⟨te, pr, rd⟩ := rg
        cases t with
        | false =>
          refine PE.weak (pe_listRg g.calm hg (g.free "list" (by simp [freeNames])) pr rfl) fun σ H Q q => rd σ H Q _ q fun a b H1 ok ⟨e, S, P, R, q2⟩ => ⟨ok, fun l hl => ?_⟩
          obtain ⟨R2, F⟩ := R.fresh (d := .lst (rngL a (b - a).toNat)) (u := .lst (rgV a b)) hl ⟨_, upd_same, repRng a _⟩
          exact q2 S _ (.refl S) R2 _ ⟨l, rfl, F⟩
        | true =>
          refine PE.weak (pe_tupRgU g.calm hg (g.free "tuple" (by simp [freeNames])) pr rfl) fun σ H Q q => rd σ H Q _ q fun a b H1 ok ⟨e, S, P, R, q2⟩ => ⟨ok, fun l u hu hl => ?_⟩
          have hs : Sub S (upd S l u) := Sub.upd (R.sub.none hl)
          exact q2 _ _ hs (R.alloc hl) _ (.tup ⟨u, upd_same, hu⟩ ((repRng a _).mono hs))
      · cases h3
    · cases h3
  · cases h
end
end Vm

namespace Vm
open PySem PySem.Spec PyProof.Rows L2
/-- the arguments as they wait -/
inductive AAr (K : PySem.W.Frag) (σ : L2.St) (S : Hp) : List AA → List V → List (Addr × HO) → Prop
  | nil : AAr K σ S [] [] []
  | v {d : D} {v : V} {as : List AA} {vs : List V} {P : List (Addr × HO)} : Rep K S v d → AAr K σ S as vs P → AAr K σ S (.v d :: as) (v :: vs) P
  | m {d : D} {l : Addr} {u : HO} {as : List AA} {vs : List V} {P : List (Addr × HO)} : OwnAt K S (fun a => if a = l then some u else none) l d → AAr K σ S as vs P → AAr K σ S (.m d :: as) (.ref l :: vs) (P ++ [(l, u)])
  | g {d : D} {l : Addr} {u : HO} {as : List AA} {vs : List V} {P : List (Addr × HO)} : OwnAt K S (fun a => if a = l then some u else none) l d → AAr K σ S as vs P → AAr K σ S (.g d :: as) (.ref l :: vs) (P ++ [(l, u)])
  | l {i : Nat} {v : V} {as : List AA} {vs : List V} {P : List (Addr × HO)} : σ[i]? = some (some v) → AAr K σ S as vs P → AAr K σ S (.l i :: as) (v :: vs) P
  | r {i : Nat} {v : V} {as : List AA} {vs : List V} {P : List (Addr × HO)} : σ[i]? = some (some v) → AAr K σ S as vs P → AAr K σ S (.r i :: as) (v :: vs) P
section
variable (K : PySem.W.Frag) (ca : Ex → Addr) (G : Gh)
def PstA (P : List (Addr × HO)) (W : WX) (σ : L2.St) (S : Hp) (r : Res (List AA)) (J : List AA → Env → Hp → Hp → List (Addr × HO) → Prop) : Prop := match r with
  | .ok a e => ∀ S' H' Pn, Sub S S' → Rel K G (Pn ++ P) e σ S' H' → J a e S' H' Pn
  | .exc x e => ∀ S' H' Pn, Sub S S' → Rel K G (Pn ++ P) e σ S' H' → W (.ref (ca x)) none σ H'
  | .bad => False
def tAs (call : CallT) (refs : List Nat) (W : WX) (as : As) : TA := fun σ H Q => ∃ e S P, Rel K G P e σ S H ∧ PstA K ca G P W σ S (evAs call refs as e) fun l e' S' H' Pn => ∀ vs, AAr K σ S' l vs Pn → Q vs H'
end
section
variable {K : PySem.W.Frag} {G : Gh} {P : List (Addr × HO)} {σ : L2.St} {S S1 H : Hp} {e : Env}
theorem Rel.drops (R : ∀ {P}, Rel K G P e σ S H → Rel K G P e σ S H) : ∀ (Pn : List (Addr × HO)) {P : List (Addr × HO)}, Rel K G (Pn ++ P) e σ S H → Rel K G P e σ S H
  | [], _, h => h
  | _ :: t, _, h => Rel.drops R t (Rel.tail h)
theorem Rel.cutP {Pn : List (Addr × HO)} (h : Rel K G (Pn ++ P) e σ S H) : Rel K G P e σ S H := Rel.drops (fun h => h) Pn h
theorem AAr.mono (hs : Sub S S1) : ∀ {as : List AA} {vs : List V} {P : List (Addr × HO)}, AAr K σ S as vs P → AAr K σ S1 as vs P
  | _, _, _, .nil => .nil
  | _, _, _, .v w t => .v (w.mono hs) (AAr.mono hs t)
  | _, _, _, .m w t => .m (w.mono hs rfl) (AAr.mono hs t)
  | _, _, _, .g w t => .g (w.mono hs rfl) (AAr.mono hs t)
  | _, _, _, .l w t => .l w (AAr.mono hs t)
  | _, _, _, .r w t => .r w (AAr.mono hs t)
end
section
variable {nm : Nat → Str} {ca : Ex → Addr} {G : Gh} {call : CallT} {j : Nat} {refs : List Nat} {W : WX} {X : Cx}
theorem PstA.mono {K : PySem.W.Frag} {P : List (Addr × HO)} {σ : L2.St} {S S1 : Hp} {r : Res (List AA)} {J : List AA → Env → Hp → Hp → List (Addr × HO) → Prop} (hs : Sub S S1) (h : PstA K ca G P W σ S r J) : PstA K ca G P W σ S1 r J := by
  cases r with
  | ok a e => exact fun S' H' Pn q R => h S' H' Pn (hs.trans q) R
  | exc x e => exact fun S' H' Pn q R => h S' H' Pn (hs.trans q) R
  | bad => exact h
theorem PstA.bind {α : Type} {K : PySem.W.Frag} {P : List (Addr × HO)} {σ : L2.St} {S : Hp} {r : Res α} {f : α → Env → Res (List AA)} {J : List AA → Env → Hp → Hp → List (Addr × HO) → Prop} (h : PstA K ca G P W σ S (r.bind f) J) :
    Pst K ca G P W σ S r fun a e S' H' => PstA K ca G P W σ S' (f a e) J := by
  cases r with
  | ok a e => exact fun S' H' q R => PstA.mono q h
  | exc x e => exact fun S' H' q R => h S' H' [] q R
  | bad => exact h
theorem PstA.imp {K : PySem.W.Frag} {P : List (Addr × HO)} {σ : L2.St} {S : Hp} {r : Res (List AA)} {J J' : List AA → Env → Hp → Hp → List (Addr × HO) → Prop} {f : List AA → List AA} {Q : List (Addr × HO)}
    (h : PstA K ca G P W σ S (r.bind fun l e => .ok (f l) e) J) (k : ∀ a e S' H' Pn, Sub S S' → Rel K G (Pn ++ (Q ++ P)) e σ S' H' → J (f a) e S' H' (Pn ++ Q) → J' a e S' H' Pn) : PstA K ca G (Q ++ P) W σ S r J' := by
  cases r with
  | ok a e => exact fun S' H' Pn q R => k a e S' H' Pn q R (h S' H' (Pn ++ Q) q (by rw [List.append_assoc]; exact R))
  | exc x e => exact fun S' H' Pn q R => h S' H' (Pn ++ Q) q (by rw [List.append_assoc]; exact R)
  | bad => exact h
theorem varB_pe {N : List Str} {sc : Scope} {i : Nat} {y : Expr} (h : (match y with | .Name z _ => varB N sc i z | _ => false) = true) : ∃ z pos, y = .Name z pos ∧ varB N sc i z = true := by
  split at h
  · exact ⟨_, _, rfl, h⟩
  · cases h
theorem name_star {z : Str} {pos : Pos} (es : List Expr) (env : PySem.Env) : starEach (.Name z pos :: es) env = (false, eval (.Name z pos) env) :: starEach es env := rfl
theorem own_at {K : PySem.W.Frag} {S H : Hp} {l : Addr} {d : D} {u : HO} (o : OwnAt K S H l d) (h : H l = some u) : OwnAt K S (fun a => if a = l then some u else none) l d := o.mono (.refl S) (by simp only [if_pos]; exact h.symm)
theorem sAs : ∀ {as : As} {l : List Expr}, mAs nm X.N X.env.scope as l = true → (∀ a y, mE nm X.N X.env.scope a y = true → sizeOf a < sizeOf as → PE X y (tE X.K ca G call refs W a)) → PA X l (tAs X.K ca G call refs W as) ∧ starEach l X.env = l.map fun y => (false, eval y X.env)
  | .nil, l, h, ih => by
    unfold mAs at h
    obtain rfl := List.isEmpty_iff.mp h
    exact ⟨PA.weak pa_nil fun σ H Q ⟨e, S, P, R, q⟩ => q S H [] (.refl S) R [] .nil, rfl⟩
  | .val a r, l, h, ih => by
    unfold mAs at h
    split at h
    · rename_i y ys
      obtain ⟨h1, h2⟩ := and2 h
      have st := plain_star (mE_plain h1) ys X.env
      obtain ⟨p2, st2⟩ := sAs h2 fun a y h hz => ih a y h (by simp at hz ⊢; omega)
      refine ⟨PA.weak (pa_cons (ih a y h1 (by simp; omega)) p2 st) fun σ H Q ⟨e, S, P, R, q⟩ => ⟨e, S, P, R, ?_⟩, by rw [st, st2]; rfl⟩
      simp only [evAs] at q
      exact (PstA.bind q).imp fun p e1 S1 H1 hs1 R1 q1 v rv => by
        obtain ⟨S2, hs2, R2, r2⟩ := R1.rep rv
        exact ⟨e1, S2, P, R2, PstA.imp (Q := []) (PstA.mono hs2 q1) fun l e3 S3 H3 Pn hs3 R3 q3 vs rs => q3 _ (by rw [List.append_nil]; exact .v (r2.mono hs3) rs)⟩
    · cases h
  | .mov a r, l, h, ih => by
    unfold mAs at h
    split at h
    · rename_i y ys
      obtain ⟨h1, h2⟩ := and2 h
      have st := plain_star (mE_plain h1) ys X.env
      obtain ⟨p2, st2⟩ := sAs h2 fun a y h hz => ih a y h (by simp at hz ⊢; omega)
      refine ⟨PA.weak (pa_cons (ih a y h1 (by simp; omega)) p2 st) fun σ H Q ⟨e, S, P, R, q⟩ => ⟨e, S, P, R, ?_⟩, by rw [st, st2]; rfl⟩
      simp only [evAs] at q
      exact (PstA.bind q).imp fun p e1 S1 H1 hs1 R1 q1 v rv => by
        obtain ⟨fr, d⟩ := p
        cases fr with
        | false => exact q1.elim
        | true =>
          simp only [if_true] at q1
          obtain ⟨l, rfl, F⟩ := rv
          obtain ⟨u, hu, _⟩ := F.own.2.some
          have oa := own_at F.own.2 hu
          exact ⟨e1, S1, [(l, u)] ++ P, R1.push F hu, PstA.imp (Q := [(l, u)]) q1 fun as e3 S3 H3 Pn hs3 R3 q3 vs rs => q3 _ (.m (oa.mono hs3 rfl) rs)⟩
    · cases h
  | .give a r, l, h, ih => by
    unfold mAs at h
    split at h
    · rename_i y ys
      obtain ⟨h1, h2⟩ := and2 h
      have st := plain_star (mE_plain h1) ys X.env
      obtain ⟨p2, st2⟩ := sAs h2 fun a y h hz => ih a y h (by simp at hz ⊢; omega)
      refine ⟨PA.weak (pa_cons (ih a y h1 (by simp; omega)) p2 st) fun σ H Q ⟨e, S, P, R, q⟩ => ⟨e, S, P, R, ?_⟩, by rw [st, st2]; rfl⟩
      simp only [evAs] at q
      exact (PstA.bind q).imp fun p e1 S1 H1 hs1 R1 q1 v rv => by
        obtain ⟨fr, d⟩ := p
        cases fr with
        | false => exact q1.elim
        | true =>
          simp only [if_true] at q1
          obtain ⟨l, rfl, F⟩ := rv
          obtain ⟨u, hu, _⟩ := F.own.2.some
          have oa := own_at F.own.2 hu
          exact ⟨e1, S1, [(l, u)] ++ P, R1.push F hu, PstA.imp (Q := [(l, u)]) q1 fun as e3 S3 H3 Pn hs3 R3 q3 vs rs => q3 _ (.g (oa.mono hs3 rfl) rs)⟩
    · cases h
  | .lend i r, l, h, ih => by
    unfold mAs at h
    split at h
    · rename_i y ys
      obtain ⟨h1, h2⟩ := and2 h
      obtain ⟨z, pos, rfl, hv⟩ := varB_pe h1
      obtain ⟨p2, st2⟩ := sAs h2 fun a y h hz => ih a y h (by simp at hz ⊢; omega)
      refine ⟨PA.weak (pa_cons (pe_name hv) p2 (name_star _ _)) fun σ H Q ⟨e, S, P, R, q⟩ => ?_, by rw [name_star, st2]; rfl⟩
      simp only [evAs] at q
      cases hp : pk e i with
      | none => rw [hp] at q; exact q.elim
      | some d =>
        rw [hp] at q
        obtain ⟨v, hv1, _⟩ := R.pick hp
        exact ⟨v, hv1, e, S, P, R, PstA.imp (Q := []) q fun l e3 S3 H3 Pn hs3 R3 q3 vs rs => q3 _ (by rw [List.append_nil]; exact .l hv1 rs)⟩
    · cases h
  | .ref i r, l, h, ih => by
    unfold mAs at h
    split at h
    · rename_i y ys
      obtain ⟨h1, h2⟩ := and2 h
      obtain ⟨z, pos, rfl, hv⟩ := varB_pe h1
      obtain ⟨p2, st2⟩ := sAs h2 fun a y h hz => ih a y h (by simp at hz ⊢; omega)
      refine ⟨PA.weak (pa_cons (pe_name hv) p2 (name_star _ _)) fun σ H Q ⟨e, S, P, R, q⟩ => ?_, by rw [name_star, st2]; rfl⟩
      simp only [evAs] at q
      cases hp : pk e i with
      | none => rw [hp] at q; exact q.elim
      | some d =>
        rw [hp] at q
        obtain ⟨v, hv1, _⟩ := R.pick hp
        exact ⟨v, hv1, e, S, P, R, PstA.imp (Q := []) q fun l e3 S3 H3 Pn hs3 R3 q3 vs rs => q3 _ (by rw [List.append_nil]; exact .r hv1 rs)⟩
    · cases h
end
end Vm

namespace Vm
open PySem PySem.Spec PyProof.Rows L2
open Classical in
/-- the ground with what is lent -/
noncomputable def lendS (S H : Hp) (L : Addr → Prop) : Hp := fun b => if L b then H b else S b
theorem lendS_in {S H : Hp} {L : Addr → Prop} {b : Addr} (h : L b) : lendS S H L b = H b := if_pos h
theorem lendS_out {S H : Hp} {L : Addr → Prop} {b : Addr} (h : ¬ L b) : lendS S H L b = S b := if_neg h
theorem lendS_sub {S H : Hp} {L : Addr → Prop} (h : Sub S H) : Sub S (lendS S H L) := fun b o q => by
  by_cases z : L b
  · rw [lendS_in z]; exact h b o q
  · rw [lendS_out z]; exact q
theorem lendS_le {S H : Hp} {L : Addr → Prop} (h : Sub S H) : Sub (lendS S H L) H := fun b o q => by
  by_cases z : L b
  · rw [lendS_in z] at q; exact q
  · rw [lendS_out z] at q; exact h b o q
inductive AB (σ : L2.St) : List AA → List Addr → Prop
  | nil : AB σ [] []
  | v {d : D} {as : List AA} {B : List Addr} : AB σ as B → AB σ (.v d :: as) B
  | g {d : D} {as : List AA} {B : List Addr} : AB σ as B → AB σ (.g d :: as) B
  | l {i : Nat} {as : List AA} {B : List Addr} : AB σ as B → AB σ (.l i :: as) B
  | m {d : D} {l : Addr} {as : List AA} {B : List Addr} : AB σ as B → AB σ (.m d :: as) (l :: B)
  | r {i : Nat} {l : Addr} {as : List AA} {B : List Addr} : At σ i l → AB σ as B → AB σ (.r i :: as) (l :: B)
theorem at_inj {σ : L2.St} {i : Nat} {l l' : Addr} (h : At σ i l) (h' : At σ i l') : l = l' := by
  have := h.symm.trans h'; cases this; rfl
theorem OwnAt.rep2 {K : PySem.W.Frag} {S S1 H : Hp} {l : Addr} {d : D} (o : OwnAt K S H l d) (hs : Sub S S1) (e : S1 l = H l) : Rep K S1 (.ref l) d := by
  cases d with
  | lst ds => obtain ⟨vs, a, r⟩ := o; exact .lst (by rw [e]; exact a) (r.mono hs)
  | dk ds => obtain ⟨vs, a, r⟩ := o; exact .dk (by rw [e]; exact a) (r.mono hs)
  | dt ds => obtain ⟨vs, a, r⟩ := o; exact .dt (by rw [e]; exact a) (r.mono hs)
  | _ => exact o.elim
theorem mem_ixs_l {as : List AA} {i : Nat} (h : AA.l i ∈ as) : i ∈ ixs as := List.mem_filterMap.mpr ⟨_, h, rfl⟩
theorem mem_ixs_r {as : List AA} {i : Nat} (h : AA.r i ∈ as) : i ∈ ixs as := List.mem_filterMap.mpr ⟨_, h, rfl⟩
theorem mem_map_fst {P : List (Addr × HO)} {l : Addr} {u : HO} : l ∈ (P ++ [(l, u)]).map (·.1) := by simp
section
variable {K : PySem.W.Frag} {G : Gh} {P : List (Addr × HO)} {σ : L2.St} {S H : Hp} {e : Env}
theorem args_of (R : Rel K G P e σ S H) (L : Addr → Prop) : ∀ {as : List AA} {vs : List V} {Pa : List (Addr × HO)} {avs : List AV}, AAr K σ S as vs Pa → fetch e as = some avs → (ixs as).Nodup → (∀ q ∈ Pa, q ∈ P) → (Pa.map (·.1)).Nodup →
    (∀ i d l, AA.l i ∈ as → IsOwn e i d → At σ i l → L l) → (∀ l, L l → ∃ i d, IsOwn e i d ∧ At σ i l ∧ AA.r i ∉ as) →
    ∃ B C, Args K (lendS S H L) H avs vs B C ∧ (B ++ C).Nodup ∧ (∀ l ∈ B, (∃ i d, IsOwn e i d ∧ At σ i l ∧ AA.r i ∈ as) ∨ l ∈ Pa.map (·.1)) ∧ (∀ l ∈ C, l ∈ Pa.map (·.1)) ∧ AB σ as B
  | _, _, _, _, .nil, hf, _, _, _, _, _ => by
    cases hf
    exact ⟨[], [], .nil, .nil, (fun l h => nomatch h), (fun l h => nomatch h), .nil⟩
  | .v d :: as, v :: vs, Pa, avs, .v hr ht, hf, hn, hp, hpn, h1, h2 => by
    simp only [fetch, Option.map_eq_some_iff] at hf
    obtain ⟨avs, hf, rfl⟩ := hf
    obtain ⟨B, C, a1, a2, a3, a4, a5⟩ := args_of R L ht hf hn hp hpn (fun i d l hi => h1 i d l (List.mem_cons_of_mem _ hi)) fun l hl => by
      obtain ⟨i, d, x1, x2, x3⟩ := h2 l hl
      exact ⟨i, d, x1, x2, fun z => x3 (List.mem_cons_of_mem _ z)⟩
    exact ⟨B, C, .val (hr.mono (lendS_sub R.sub)) a1, a2, fun l hl => (a3 l hl).imp (fun ⟨i, d, x1, x2, x3⟩ => ⟨i, d, x1, x2, List.mem_cons_of_mem _ x3⟩) fun h => h, a4, .v a5⟩
  | .l i :: as, v :: vs, Pa, avs, .l hv ht, hf, hn, hp, hpn, h1, h2 => by
    simp only [fetch, Option.bind_eq_some_iff, Option.map_eq_some_iff] at hf
    obtain ⟨d, hd, avs, hf, rfl⟩ := hf
    have hn' : (ixs as).Nodup := (List.nodup_cons.mp (show (i :: ixs as).Nodup from hn)).2
    obtain ⟨B, C, a1, a2, a3, a4, a5⟩ := args_of R L ht hf hn' hp hpn (fun i d l hi => h1 i d l (List.mem_cons_of_mem _ hi)) fun l hl => by
      obtain ⟨i, d, x1, x2, x3⟩ := h2 l hl
      exact ⟨i, d, x1, x2, fun z => x3 (List.mem_cons_of_mem _ z)⟩
    refine ⟨B, C, .val ?_ a1, a2, fun l hl => (a3 l hl).imp (fun ⟨i, d, x1, x2, x3⟩ => ⟨i, d, x1, x2, List.mem_cons_of_mem _ x3⟩) fun h => h, a4, .l a5⟩
    have own : ∀ {d}, IsOwn e i d → Rep K (lendS S H L) v d := fun {d} hi => by
      obtain ⟨l, x1, x2, x3⟩ := R.own i d hi
      have x1' : σ[i]? = some (some (.ref l)) := x1
      rw [x1'] at hv; cases hv
      exact x2.2.rep2 (lendS_sub R.sub) (lendS_in (h1 i d l List.mem_cons_self hi x1))
    unfold pk at hd
    split at hd
    · rename_i d' q; cases hd
      obtain ⟨w, x1, x2⟩ := R.val i d q
      rw [x1] at hv; cases hv
      exact x2.mono (lendS_sub R.sub)
    · rename_i d' q; cases hd; exact own (.inl q)
    · rename_i d' q; cases hd; exact own (.inr q)
    · cases hd
  | .r i :: as, v :: vs, Pa, avs, .r hv ht, hf, hn, hp, hpn, h1, h2 => by
    simp only [fetch] at hf
    split at hf
    · rename_i d hd
      simp only [Option.map_eq_some_iff] at hf
      obtain ⟨avs, hf, rfl⟩ := hf
      have hn0 := List.nodup_cons.mp (show (i :: ixs as).Nodup from hn)
      obtain ⟨B, C, a1, a2, a3, a4, a5⟩ := args_of R L ht hf hn0.2 hp hpn (fun i d l hi => h1 i d l (List.mem_cons_of_mem _ hi)) fun l hl => by
        obtain ⟨i, d, x1, x2, x3⟩ := h2 l hl
        exact ⟨i, d, x1, x2, fun z => x3 (List.mem_cons_of_mem _ z)⟩
      obtain ⟨l, x1, x2, x3⟩ := R.own i d (.inl hd)
      have x1' : σ[i]? = some (some (.ref l)) := x1
      rw [x1'] at hv; cases hv
      have hl : ¬ L l := fun z => by
        obtain ⟨i', d', y1, y2, y3⟩ := h2 l z
        have := R.sep i' i d' d l y1 (.inl hd) y2 x1
        subst this
        exact y3 List.mem_cons_self
      have notP : l ∉ Pa.map (·.1) := fun z => by
        obtain ⟨q, hq, rfl⟩ := List.mem_map.mp z
        exact (R.pen q (hp q hq)).2.2.1 i d (.inl hd) x1
      refine ⟨l :: B, C, .own ⟨by rw [lendS_out hl]; exact x2.1, x2.2.mono (lendS_sub R.sub) rfl⟩ a1, ?_, fun l' hl' => ?_, a4, .r x1 a5⟩
      · rw [List.cons_append, List.nodup_cons]
        refine ⟨fun z => ?_, a2⟩
        rcases List.mem_append.mp z with z | z
        · rcases a3 l z with ⟨i', d', y1, y2, y3⟩ | z
          · have := R.sep i' i d' d l y1 (.inl hd) y2 x1
            subst this
            exact hn0.1 (mem_ixs_r y3)
          · exact notP z
        · exact notP (a4 l z)
      · rcases List.mem_cons.mp hl' with rfl | hl'
        · exact .inl ⟨i, d, .inl hd, x1, List.mem_cons_self⟩
        · exact (a3 l' hl').imp (fun ⟨i, d, x1, x2, x3⟩ => ⟨i, d, x1, x2, List.mem_cons_of_mem _ x3⟩) fun h => h
    · cases hf
  | .m d :: as, .ref l :: vs, _, avs, .m (P := Pa) (u := u) ho ht, hf, hn, hp, hpn, h1, h2 => by
    simp only [fetch, Option.map_eq_some_iff] at hf
    obtain ⟨avs, hf, rfl⟩ := hf
    rw [List.map_append] at hpn
    have hpn0 := List.nodup_append.mp hpn
    obtain ⟨B, C, a1, a2, a3, a4, a5⟩ := args_of R L ht hf hn (fun q hq => hp q (List.mem_append_left _ hq)) hpn0.1 (fun i d l hi => h1 i d l (List.mem_cons_of_mem _ hi)) fun l hl => by
      obtain ⟨i, d, x1, x2, x3⟩ := h2 l hl
      exact ⟨i, d, x1, x2, fun z => x3 (List.mem_cons_of_mem _ z)⟩
    obtain ⟨p1, p2, p3, p4⟩ := R.pen (l, u) (hp _ (by simp))
    have notP : l ∉ Pa.map (·.1) := fun z => hpn0.2.2 l z l (by simp) rfl
    have hl : ¬ L l := fun z => by
      obtain ⟨i', d', y1, y2, y3⟩ := h2 l z
      exact p3 i' d' y1 y2
    refine ⟨l :: B, C, .own ⟨by rw [lendS_out hl]; exact p2, ho.mono (lendS_sub R.sub) (by simp only [if_pos]; exact p1)⟩ a1, ?_, fun l' hl' => ?_, fun l' hl' => by rw [List.map_append]; exact List.mem_append_left _ (a4 l' hl'), .m a5⟩
    · rw [List.cons_append, List.nodup_cons]
      refine ⟨fun z => ?_, a2⟩
      rcases List.mem_append.mp z with z | z
      · rcases a3 l z with ⟨i', d', y1, y2, y3⟩ | z
        · exact p3 i' d' y1 y2
        · exact notP z
      · exact notP (a4 l z)
    · rcases List.mem_cons.mp hl' with rfl | hl'
      · exact .inr mem_map_fst
      · exact (a3 l' hl').imp (fun ⟨i, d, x1, x2, x3⟩ => ⟨i, d, x1, x2, List.mem_cons_of_mem _ x3⟩) fun h => by rw [List.map_append]; exact List.mem_append_left _ h
  | .g d :: as, .ref l :: vs, _, avs, .g (P := Pa) (u := u) ho ht, hf, hn, hp, hpn, h1, h2 => by
    simp only [fetch, Option.map_eq_some_iff] at hf
    obtain ⟨avs, hf, rfl⟩ := hf
    rw [List.map_append] at hpn
    have hpn0 := List.nodup_append.mp hpn
    obtain ⟨B, C, a1, a2, a3, a4, a5⟩ := args_of R L ht hf hn (fun q hq => hp q (List.mem_append_left _ hq)) hpn0.1 (fun i d l hi => h1 i d l (List.mem_cons_of_mem _ hi)) fun l hl => by
      obtain ⟨i, d, x1, x2, x3⟩ := h2 l hl
      exact ⟨i, d, x1, x2, fun z => x3 (List.mem_cons_of_mem _ z)⟩
    obtain ⟨p1, p2, p3, p4⟩ := R.pen (l, u) (hp _ (by simp))
    have notP : l ∉ Pa.map (·.1) := fun z => hpn0.2.2 l z l (by simp) rfl
    have hl : ¬ L l := fun z => by
      obtain ⟨i', d', y1, y2, y3⟩ := h2 l z
      exact p3 i' d' y1 y2
    refine ⟨B, l :: C, .give ⟨by rw [lendS_out hl]; exact p2, ho.mono (lendS_sub R.sub) (by simp only [if_pos]; exact p1)⟩ a1, ?_, fun l' hl' => (a3 l' hl').imp (fun ⟨i, d, x1, x2, x3⟩ => ⟨i, d, x1, x2, List.mem_cons_of_mem _ x3⟩) fun h => by rw [List.map_append]; exact List.mem_append_left _ h, fun l' hl' => ?_, .g a5⟩
    · refine (List.perm_middle.nodup_iff).mpr (List.nodup_cons.mpr ⟨fun z => ?_, a2⟩)
      rcases List.mem_append.mp z with z | z
      · rcases a3 l z with ⟨i', d', y1, y2, y3⟩ | z
        · exact p3 i' d' y1 y2
        · exact notP z
      · exact notP (a4 l z)
    · rcases List.mem_cons.mp hl' with rfl | hl'
      · exact mem_map_fst
      · rw [List.map_append]; exact List.mem_append_left _ (a4 l' hl')
/-- what the names are behind the call -/
theorem putBack_ok {S2 H2 : Hp} : ∀ {as : List AA} {B : List Addr} {os : List D} {e1 : Env}, AB σ as B → Outs K S2 H2 B os → putBack as os e = some e1 → (ixs as).Nodup → (∀ i, AA.r i ∈ as → i < e.length) →
    e1.length = e.length ∧ ∀ i, (AA.r i ∉ as → e1[i]? = e[i]?) ∧ (AA.r i ∈ as → ∃ d l, e1[i]? = some (.own d) ∧ At σ i l ∧ l ∈ B ∧ Own K S2 H2 l d ∧ d ∈ os)
  | [], _, os, e1, .nil, ho, hp, _, _ => by
    cases ho; cases hp
    exact ⟨rfl, fun i => ⟨fun _ => rfl, fun z => nomatch z⟩⟩
  | .v d :: as, B, os, e1, .v ab, ho, hp, hn, hlt => by
    obtain ⟨a1, a2⟩ := putBack_ok ab ho (show putBack as os e = some e1 from hp) hn fun i h => hlt i (List.mem_cons_of_mem _ h)
    refine ⟨a1, fun i => ⟨fun z => (a2 i).1 fun w => z (List.mem_cons_of_mem _ w), fun z => ?_⟩⟩
    rcases List.mem_cons.mp z with z | z
    · cases z
    · exact (a2 i).2 z
  | .g d :: as, B, os, e1, .g ab, ho, hp, hn, hlt => by
    obtain ⟨a1, a2⟩ := putBack_ok ab ho (show putBack as os e = some e1 from hp) hn fun i h => hlt i (List.mem_cons_of_mem _ h)
    refine ⟨a1, fun i => ⟨fun z => (a2 i).1 fun w => z (List.mem_cons_of_mem _ w), fun z => ?_⟩⟩
    rcases List.mem_cons.mp z with z | z
    · cases z
    · exact (a2 i).2 z
  | .l d :: as, B, os, e1, .l ab, ho, hp, hn, hlt => by
    obtain ⟨a1, a2⟩ := putBack_ok ab ho (show putBack as os e = some e1 from hp) (List.nodup_cons.mp (show (d :: ixs as).Nodup from hn)).2 fun i h => hlt i (List.mem_cons_of_mem _ h)
    refine ⟨a1, fun i => ⟨fun z => (a2 i).1 fun w => z (List.mem_cons_of_mem _ w), fun z => ?_⟩⟩
    rcases List.mem_cons.mp z with z | z
    · cases z
    · exact (a2 i).2 z
  | .m d :: as, _, _, e1, .m ab, .cons (os := os) (d := o) ho1 ho, hp, hn, hlt => by
    obtain ⟨a1, a2⟩ := putBack_ok ab ho (show putBack as os e = some e1 from hp) hn fun i h => hlt i (List.mem_cons_of_mem _ h)
    refine ⟨a1, fun i => ⟨fun z => (a2 i).1 fun w => z (List.mem_cons_of_mem _ w), fun z => ?_⟩⟩
    rcases List.mem_cons.mp z with z | z
    · cases z
    · obtain ⟨d, l, x1, x2, x3, x4, x5⟩ := (a2 i).2 z
      exact ⟨d, l, x1, x2, List.mem_cons_of_mem _ x3, x4, List.mem_cons_of_mem _ x5⟩
  | .r k :: as, _, _, e1, .r (l := l) hat ab, .cons (os := os) (d := o) ho1 ho, hp, hn, hlt => by
    have hp0 : (putBack as os e).map (fun e => e.set k (.own o)) = some e1 := hp
    simp only [Option.map_eq_some_iff] at hp0
    obtain ⟨e2, hp2, rfl⟩ := hp0
    have hn0 := List.nodup_cons.mp (show (k :: ixs as).Nodup from hn)
    obtain ⟨a1, a2⟩ := putBack_ok ab ho hp2 hn0.2 fun i h => hlt i (List.mem_cons_of_mem _ h)
    refine ⟨by rw [List.length_set]; exact a1, fun i => ⟨fun z => ?_, fun z => ?_⟩⟩
    · have hne : k ≠ i := fun w => z (w ▸ List.mem_cons_self)
      rw [List.getElem?_set_ne hne]
      exact (a2 i).1 fun w => z (List.mem_cons_of_mem _ w)
    · by_cases hki : k = i
      · subst hki
        exact ⟨o, l, by rw [List.getElem?_set_self (by rw [a1]; exact hlt k List.mem_cons_self)], hat, List.mem_cons_self, ho1, List.mem_cons_self⟩
      · rcases List.mem_cons.mp z with z | z
        · cases z; exact absurd rfl hki
        · rw [List.getElem?_set_ne hki]
          obtain ⟨d, l, x1, x2, x3, x4, x5⟩ := (a2 i).2 z
          exact ⟨d, l, x1, x2, List.mem_cons_of_mem _ x3, x4, List.mem_cons_of_mem _ x5⟩
theorem frzS_get {e : Env} {j i : Nat} {s : Slot} (h : (frzS e j)[i]? = some s) : (e[i]? = some s ∧ (i = j → ∀ d, ¬ IsOwn e i d)) ∨ (i = j ∧ ∃ d, s = .val d ∧ IsOwn e i d) := by
  unfold frzS at h
  split at h
  · rename_i d hd
    by_cases hij : j = i
    · subst hij
      rw [List.getElem?_set_self (IsOwn.lt (.inl hd))] at h; cases h
      exact .inr ⟨rfl, d, rfl, .inl hd⟩
    · rw [List.getElem?_set_ne hij] at h
      exact .inl ⟨h, fun z => absurd z.symm hij⟩
  · rename_i d hd
    by_cases hij : j = i
    · subst hij
      rw [List.getElem?_set_self (IsOwn.lt (.inr hd))] at h; cases h
      exact .inr ⟨rfl, d, rfl, .inr hd⟩
    · rw [List.getElem?_set_ne hij] at h
      exact .inl ⟨h, fun z => absurd z.symm hij⟩
  · rename_i h1 h2
    refine .inl ⟨h, fun z d o => ?_⟩
    subst z
    rcases o with o | o
    · exact h1 d o
    · exact h2 d o
theorem frzS_len {e : Env} {j : Nat} : (frzS e j).length = e.length := by
  unfold frzS
  split <;> simp
theorem frzA_get : ∀ {as : List AA} {e : Env} {i : Nat} {s : Slot}, (frzA as e)[i]? = some s → (e[i]? = some s ∧ (AA.l i ∈ as → ∀ d, ¬ IsOwn e i d)) ∨ (AA.l i ∈ as ∧ ∃ d, s = .val d ∧ IsOwn e i d)
  | [], e, i, s, h => .inl ⟨h, fun z => nomatch z⟩
  | .l j :: as, e, i, s, h => by
    rcases frzS_get (show (frzS (frzA as e) j)[i]? = some s from h) with ⟨h1, h2⟩ | ⟨rfl, d, rfl, h1⟩
    · rcases frzA_get h1 with ⟨h3, h4⟩ | ⟨h3, d, rfl, h4⟩
      · refine .inl ⟨h3, fun z d o => ?_⟩
        rcases List.mem_cons.mp z with z | z
        · cases z
          refine h2 rfl d ?_
          rcases o with o | o
          · rw [h3] at o; cases o; exact .inl h1
          · rw [h3] at o; cases o; exact .inr h1
        · exact h4 z d o
      · exact .inr ⟨List.mem_cons_of_mem _ h3, d, rfl, h4⟩
    · rcases h1 with h1 | h1
      · rcases frzA_get h1 with ⟨h3, h4⟩ | ⟨h3, d', z, h4⟩
        · exact .inr ⟨List.mem_cons_self, d, rfl, .inl h3⟩
        · cases z
      · rcases frzA_get h1 with ⟨h3, h4⟩ | ⟨h3, d', z, h4⟩
        · exact .inr ⟨List.mem_cons_self, d, rfl, .inr h3⟩
        · cases z
  | .v _ :: as, e, i, s, h => by
    rcases frzA_get (show (frzA as e)[i]? = some s from h) with ⟨h3, h4⟩ | ⟨h3, h4⟩
    · exact .inl ⟨h3, fun z => by rcases List.mem_cons.mp z with z | z; cases z; exact h4 z⟩
    · exact .inr ⟨List.mem_cons_of_mem _ h3, h4⟩
  | .m _ :: as, e, i, s, h => by
    rcases frzA_get (show (frzA as e)[i]? = some s from h) with ⟨h3, h4⟩ | ⟨h3, h4⟩
    · exact .inl ⟨h3, fun z => by rcases List.mem_cons.mp z with z | z; cases z; exact h4 z⟩
    · exact .inr ⟨List.mem_cons_of_mem _ h3, h4⟩
  | .g _ :: as, e, i, s, h => by
    rcases frzA_get (show (frzA as e)[i]? = some s from h) with ⟨h3, h4⟩ | ⟨h3, h4⟩
    · exact .inl ⟨h3, fun z => by rcases List.mem_cons.mp z with z | z; cases z; exact h4 z⟩
    · exact .inr ⟨List.mem_cons_of_mem _ h3, h4⟩
  | .r _ :: as, e, i, s, h => by
    rcases frzA_get (show (frzA as e)[i]? = some s from h) with ⟨h3, h4⟩ | ⟨h3, h4⟩
    · exact .inl ⟨h3, fun z => by rcases List.mem_cons.mp z with z | z; cases z; exact h4 z⟩
    · exact .inr ⟨List.mem_cons_of_mem _ h3, h4⟩
theorem frzA_len : ∀ {as : List AA} {e : Env}, (frzA as e).length = e.length
  | [], _ => rfl
  | .l j :: as, e => by show (frzS (frzA as e) j).length = _; rw [frzS_len, frzA_len]
  | .v _ :: as, e => frzA_len (as := as)
  | .m _ :: as, e => frzA_len (as := as)
  | .g _ :: as, e => frzA_len (as := as)
  | .r _ :: as, e => frzA_len (as := as)
end
end Vm

namespace Vm
open PySem PySem.Spec PyProof.Rows L2
theorem okOut_at {K : PySem.W.Frag} {S S' H : Hp} {l : Addr} {d : D} (h : NM S S') (o : OwnAt K S H l d) (k : okOut d = true) : OwnAt K S' H l d := by
  cases d with
  | lst ds => obtain ⟨vs, a, r⟩ := o; exact ⟨vs, a, RepL.flat h r k⟩
  | dk ds => obtain ⟨vs, a, r⟩ := o; exact ⟨vs, a, RepL.flat h r k⟩
  | dt ds => obtain ⟨vs, a, r⟩ := o; exact ⟨vs, a, RepL.flat h r k⟩
  | _ => exact o.elim
section
variable {K : PySem.W.Frag} {G : Gh} {P Pn : List (Addr × HO)} {σ : L2.St} {S H S2 H2 : Hp} {e e1 : Env}
/-- what is lent -/
def Lent (e : Env) (σ : L2.St) (as : List AA) : Addr → Prop := fun l => ∃ i d, AA.l i ∈ as ∧ IsOwn e i d ∧ At σ i l
theorem ixs_lr : ∀ {as : List AA}, (ixs as).Nodup → ∀ i, AA.l i ∈ as → AA.r i ∈ as → False
  | [], _, _, h, _ => nomatch h
  | a :: as, hn, i, h1, h2 => by
    have step : ∀ k, AA.ix a = some k → k ∉ ixs as ∧ (ixs as).Nodup := fun k hk => by
      have : ixs (a :: as) = k :: ixs as := by unfold ixs; rw [List.filterMap_cons, hk]
      rw [this] at hn
      exact List.nodup_cons.mp hn
    have rest : (ixs as).Nodup := by
      cases hk : AA.ix a with
      | none =>
        have : ixs (a :: as) = ixs as := by unfold ixs; rw [List.filterMap_cons, hk]
        rw [this] at hn; exact hn
      | some k => exact (step k hk).2
    rcases List.mem_cons.mp h1 with h1 | h1
    · subst h1
      rcases List.mem_cons.mp h2 with h2 | h2
      · cases h2
      · exact (step i rfl).1 (mem_ixs_r h2)
    · rcases List.mem_cons.mp h2 with h2 | h2
      · subst h2
        rename_i hm
        exact (step i rfl).1 (mem_ixs_l (by first | exact h1 | exact hm))
      · exact ixs_lr rest i h1 h2
open Classical in
theorem Rel.called {as : List AA} {vs : List V} {B C : List Addr} {os : List D} (R : Rel K G (Pn ++ P) e σ S H) (ha : AAr K σ S as vs Pn) (hn : (ixs as).Nodup)
    (b3 : ∀ l ∈ B, (∃ i d, IsOwn e i d ∧ At σ i l ∧ AA.r i ∈ as) ∨ l ∈ Pn.map (·.1)) (b4 : ∀ l ∈ C, l ∈ Pn.map (·.1)) (ab : AB σ as B) (A : After K (lendS S H (Lent e σ as)) H B C S2 H2 os)
    (hp : putBack as os e = some e1) (hr : ∀ i, AA.r i ∈ as → ∃ d, e[i]? = some (.own d)) (th : Bool) (hth : th = true → os.all okOut = true) :
    ∃ S3, Sub S S3 ∧ Rel K G P (if th = true then e1 else frzA as e1) σ S3 H2 ∧ (th = false → S3 = S2) ∧ (th = true → NM S2 S3) ∧ (∀ b, S2 b = none → S3 b = none) ∧ (∀ i d, IsOwn (if th = true then e1 else frzA as e1) i d → ∃ d0, IsOwn e i d0) := by
  have hpnd := R.pnd
  rw [List.map_append] at hpnd
  have hpn0 := List.nodup_append.mp hpnd
  have notB : ∀ {i d l}, IsOwn e i d → At σ i l → AA.r i ∉ as → l ∉ B := fun {i d l} o a nr z => by
    rcases b3 l z with ⟨i', d', y1, y2, y3⟩ | z
    · have := R.sep i' i d' d l y1 o y2 a
      subst this
      exact nr y3
    · obtain ⟨q, hq, rfl⟩ := List.mem_map.mp z
      exact (R.pen q (List.mem_append_left _ hq)).2.2.1 i d o a
  have notC : ∀ {i d l}, IsOwn e i d → At σ i l → l ∉ C := fun {i d l} o a z => by
    obtain ⟨q, hq, rfl⟩ := List.mem_map.mp (b4 l z)
    exact (R.pen q (List.mem_append_left _ hq)).2.2.1 i d o a
  have hbk := putBack_ok (e := e) ab A.outs hp hn fun i h => by
    obtain ⟨d, hd⟩ := hr i h
    exact IsOwn.lt (.inl hd)
  -- the names behind the call
  have slots : ∀ i s, (if th = true then e1 else frzA as e1)[i]? = some s → (∃ d l d0, s = .own d ∧ AA.r i ∈ as ∧ e[i]? = some (.own d0) ∧ At σ i l ∧ Own K S2 H2 l d ∧ d ∈ os) ∨
      (e[i]? = some s ∧ AA.r i ∉ as ∧ (th = false → AA.l i ∈ as → ∀ d, ¬ IsOwn e i d)) ∨ (th = false ∧ ∃ d, s = .val d ∧ AA.l i ∈ as ∧ IsOwn e i d) := by
    intro i s hs
    have base : ∀ s, e1[i]? = some s → (∃ d l d0, s = .own d ∧ AA.r i ∈ as ∧ e[i]? = some (.own d0) ∧ At σ i l ∧ Own K S2 H2 l d ∧ d ∈ os) ∨ (e[i]? = some s ∧ AA.r i ∉ as) := fun s hs => by
      by_cases hi : AA.r i ∈ as
      · obtain ⟨d, l, x1, x2, _, x4, x5⟩ := (hbk.2 i).2 hi
        obtain ⟨d0, hd0⟩ := hr i hi
        rw [x1] at hs; cases hs
        exact .inl ⟨d, l, d0, rfl, hi, hd0, x2, x4, x5⟩
      · rw [(hbk.2 i).1 hi] at hs
        exact .inr ⟨hs, hi⟩
    cases th with
    | true =>
      rcases base s hs with h | ⟨h1, h2⟩
      · exact .inl h
      · exact .inr (.inl ⟨h1, h2, fun z => nomatch z⟩)
    | false =>
      have hs : (frzA as e1)[i]? = some s := hs
      rcases frzA_get hs with ⟨h1, h2⟩ | ⟨h1, d, rfl, h2⟩
      · rcases base s h1 with h | ⟨h3, h4⟩
        · exact .inl h
        · refine .inr (.inl ⟨h3, h4, fun _ z d o => h2 z d ?_⟩)
          rcases o with o | o
          · exact .inl (by rw [(hbk.2 i).1 h4]; exact o)
          · exact .inr (by rw [(hbk.2 i).1 h4]; exact o)
      · have hi : AA.r i ∉ as := fun z => ixs_lr hn i h1 z
        refine .inr (.inr ⟨rfl, d, rfl, h1, ?_⟩)
        rcases h2 with h2 | h2
        · exact .inl (by rw [← (hbk.2 i).1 hi]; exact h2)
        · exact .inr (by rw [← (hbk.2 i).1 hi]; exact h2)
  have owned : ∀ i d, IsOwn (if th = true then e1 else frzA as e1) i d → ∃ d0, IsOwn e i d0 := fun i d o => by
    have key : ∀ s, (if th = true then e1 else frzA as e1)[i]? = some s → (s = .own d ∨ s = .lck d) → ∃ d0, IsOwn e i d0 := fun s hs hsd => by
      rcases slots i s hs with ⟨d', l, d0, rfl, h1, h2, _⟩ | ⟨h1, h2, _⟩ | ⟨_, d', rfl, _, h2⟩
      · exact ⟨d0, .inl h2⟩
      · rcases hsd with rfl | rfl
        · exact ⟨d, .inl h1⟩
        · exact ⟨d, .inr h1⟩
      · exact ⟨d', h2⟩
    rcases o with o | o
    · exact key _ o (.inl rfl)
    · exact key _ o (.inr rfl)
  have lentH : ∀ l, Lent e σ as l → ∃ u, H l = some u ∧ S2 l = some u ∧ H2 l = some u ∧ Mut (some u) ∧ S l = none := fun l hl => by
    obtain ⟨i, d, h1, h2, h3⟩ := hl
    obtain ⟨l', x1, x2, x3⟩ := R.own i d h2
    have := at_inj h3 x1
    subst this
    obtain ⟨u, hu, mu⟩ := x2.2.some
    have := A.s0 l u (by rw [lendS_in ⟨i, d, h1, h2, h3⟩]; exact hu)
    exact ⟨u, hu, this, A.sub l u this, mu, x2.1⟩
  have sub2 : Sub S S2 := (lendS_sub R.sub).trans A.s0
  -- what was none and mutable stays none
  have stay : ∀ l u, H l = some u → Mut (some u) → S l = none → l ∉ B → l ∉ C → ¬ Lent e σ as l → S2 l = none := fun l u hu mu hs hB hC hL => by
    cases q : S2 l with
    | none => rfl
    | some o =>
      have h2 := A.sub l o q
      have := A.fr l u hu hB hC
      rw [h2] at this; cases this
      rcases A.new l _ q mu with z | z | z
      · rw [lendS_out hL, hs] at z; exact absurd rfl z
      · rw [hu] at z; cases z
      · exact absurd z hC
  -- the ground behind the call
  obtain ⟨S3, s3a, s3b, s3c, s3d, s3e⟩ : ∃ S3 : Hp, Sub S S3 ∧ Sub S3 S2 ∧ (th = false → S3 = S2) ∧ (th = true → NM S2 S3) ∧ (th = true → ∀ l, Lent e σ as l → S3 l = none) := by
    cases th with
    | false => exact ⟨S2, sub2, .refl S2, fun _ => rfl, (fun z => nomatch z), fun z => nomatch z⟩
    | true =>
      refine ⟨fun b => if Lent e σ as b then none else S2 b, fun b o q => ?_, fun b o q => ?_, (fun z => nomatch z), fun _ b o q m => ?_, fun _ l hl => if_pos hl⟩
      · show (if Lent e σ as b then none else S2 b) = some o
        by_cases z : Lent e σ as b
        · obtain ⟨u, _, _, _, _, hn⟩ := lentH b z
          rw [hn] at q; cases q
        · rw [if_neg z]; exact sub2 b o q
      · have q : (if Lent e σ as b then none else S2 b) = some o := q
        by_cases z : Lent e σ as b
        · rw [if_pos z] at q; cases q
        · rw [if_neg z] at q; exact q
      · show (if Lent e σ as b then none else S2 b) = some o
        by_cases z : Lent e σ as b
        · obtain ⟨u, _, h2, _, mu, _⟩ := lentH b z
          rw [q] at h2; cases h2; exact absurd mu m
        · rw [if_neg z]; exact q
  have none3 : ∀ b, S2 b = none → S3 b = none := fun b h => by
    cases q : S3 b with
    | none => rfl
    | some o => rw [s3b b o q] at h; cases h
  refine ⟨S3, s3a, ?_, s3c, s3d, none3, owned⟩
  exact {
    sub := s3b.trans A.sub
    fr := fun b o hb hB => by
      have hH := R.fr b o hb hB
      refine A.fr b o hH (fun z => ?_) fun z => ?_
      · rcases b3 b z with ⟨i, d, y1, y2, y3⟩ | z
        · obtain ⟨l, x1, x2, x3⟩ := R.own i d y1
          have := at_inj y2 x1
          subst this
          rcases x3 with x3 | x3
          · rw [x3] at hb; cases hb
          · exact hB x3
        · obtain ⟨q, hq, rfl⟩ := List.mem_map.mp z
          rcases (R.pen q (List.mem_append_left _ hq)).2.2.2.1 with x3 | x3
          · rw [x3] at hb; cases hb
          · exact hB x3
      · obtain ⟨q, hq, rfl⟩ := List.mem_map.mp (b4 b z)
        rcases (R.pen q (List.mem_append_left _ hq)).2.2.2.1 with x3 | x3
        · rw [x3] at hb; cases hb
        · exact hB x3
    s0 := R.s0.trans s3a
    new := fun b o hb mu => by
      rcases A.new b o (s3b b o hb) mu with z | z | z
      · by_cases hl : Lent e σ as b
        · obtain ⟨i, d, h1, h2, h3⟩ := hl
          obtain ⟨l', x1, x2, x3⟩ := R.own i d h2
          have := at_inj h3 x1
          subst this
          exact .inr x3
        · rw [lendS_out hl] at z
          cases q : S b with
          | none => exact absurd q z
          | some o' =>
            have := s3a b o' q
            rw [hb] at this; cases this
            exact R.new b o q mu
      · exact .inr (R.gfree z)
      · obtain ⟨q, hq, rfl⟩ := List.mem_map.mp (b4 b z)
        exact .inr (R.pen q (List.mem_append_left _ hq)).2.2.2.1
    len := by
      cases th with
      | true => exact hbk.1.trans R.len
      | false => exact (frzA_len.trans hbk.1).trans R.len
    val := fun i d hs => by
      rcases slots i _ hs with ⟨d', l, d0, z, _⟩ | ⟨h1, h2, _⟩ | ⟨hf, d', z, h1, h2⟩
      · cases z
      · obtain ⟨v, x1, x2⟩ := R.val i d h1
        exact ⟨v, x1, x2.mono s3a⟩
      · cases z
        obtain ⟨l, x1, x2, x3⟩ := R.own i d h2
        refine ⟨.ref l, x1, ?_⟩
        rw [s3c hf]
        have : Rep K (lendS S H (Lent e σ as)) (.ref l) d := x2.2.rep2 (lendS_sub R.sub) (lendS_in ⟨i, d, h1, h2, x1⟩)
        exact this.mono A.s0
    own := fun i d o => by
      have key : ∀ s, (if th = true then e1 else frzA as e1)[i]? = some s → (s = .own d ∨ s = .lck d) → ∃ l, At σ i l ∧ Own K S3 H2 l d ∧ (G.H l = none ∨ l ∈ G.B) := fun s hs hsd => by
        rcases slots i s hs with ⟨d', l, d0, rfl, h1, h2, h3, h4, h5⟩ | ⟨h1, h2, h3⟩ | ⟨_, d', rfl, _, h2⟩
        · have hdd : d' = d := by rcases hsd with z | z <;> cases z; rfl
          subst hdd
          obtain ⟨l', x1, x2, x3⟩ := R.own i d0 (.inl h2)
          have := at_inj h3 x1
          subst this
          refine ⟨l, h3, ⟨none3 l h4.1, ?_⟩, x3⟩
          cases hh : th with
          | false => rw [s3c hh]; exact h4.2
          | true => exact okOut_at (s3d hh) h4.2 (List.all_eq_true.mp (hth hh) _ h5)
        · have hown : IsOwn e i d := by
            rcases hsd with rfl | rfl
            · exact .inl h1
            · exact .inr h1
          obtain ⟨l, x1, x2, x3⟩ := R.own i d hown
          obtain ⟨u, hu, mu⟩ := x2.2.some
          have hB := notB hown x1 h2
          have hC := notC hown x1
          refine ⟨l, x1, ⟨?_, x2.2.mono s3a ((A.fr l u hu hB hC).trans hu.symm)⟩, x3⟩
          by_cases hl : Lent e σ as l
          · cases hh : th with
            | true => exact s3e hh l hl
            | false =>
              obtain ⟨i', d', y1, y2, y3⟩ := hl
              have := R.sep i' i d' d l y2 hown y3 x1
              subst this
              exact absurd hown (h3 hh y1 d)
          · exact none3 l (stay l u hu mu x2.1 hB hC hl)
        · rcases hsd with z | z <;> cases z
      rcases o with o | o
      · exact key _ o (.inl rfl)
      · exact key _ o (.inr rfl)
    sep := fun i k d d' l o1 o2 a1 a2 => by
      obtain ⟨d1, p1⟩ := owned i d o1
      obtain ⟨d2, p2⟩ := owned k d' o2
      exact R.sep i k d1 d2 l p1 p2 a1 a2
    pen := fun q hq => by
      obtain ⟨p1, p2, p3, p4, p5⟩ := R.pen q (List.mem_append_right _ hq)
      have nP : q.1 ∉ Pn.map (·.1) := fun z => hpn0.2.2 q.1 z q.1 (List.mem_map.mpr ⟨q, hq, rfl⟩) rfl
      have hB : q.1 ∉ B := fun z => by
        rcases b3 _ z with ⟨i, d, y1, y2, y3⟩ | z
        · exact p3 i d y1 y2
        · exact nP z
      have hC : q.1 ∉ C := fun z => nP (b4 _ z)
      refine ⟨A.fr _ _ p1 hB hC, none3 _ (stay _ _ p1 p5 p2 hB hC fun ⟨i, d, y1, y2, y3⟩ => p3 i d y2 y3), fun i d o => ?_, p4, p5⟩
      obtain ⟨d0, o0⟩ := owned i d o
      exact p3 i d0 o0
    pnd := hpn0.2.1
    refs := R.refs }
theorem fetch_r : ∀ {as : List AA} {avs : List AV}, fetch e as = some avs → ∀ i, AA.r i ∈ as → ∃ d, e[i]? = some (.own d)
  | [], _, _, i, h => nomatch h
  | a :: as, avs, hf, i, h => by
    have rest : ∃ avs', fetch e as = some avs' := by
      cases a with
      | v d => simp only [fetch, Option.map_eq_some_iff] at hf; obtain ⟨x, y, _⟩ := hf; exact ⟨x, y⟩
      | m d => simp only [fetch, Option.map_eq_some_iff] at hf; obtain ⟨x, y, _⟩ := hf; exact ⟨x, y⟩
      | g d => simp only [fetch, Option.map_eq_some_iff] at hf; obtain ⟨x, y, _⟩ := hf; exact ⟨x, y⟩
      | l k => simp only [fetch, Option.bind_eq_some_iff, Option.map_eq_some_iff] at hf; obtain ⟨_, _, x, y, _⟩ := hf; exact ⟨x, y⟩
      | r k =>
        simp only [fetch] at hf
        split at hf
        · simp only [Option.map_eq_some_iff] at hf; obtain ⟨x, y, _⟩ := hf; exact ⟨x, y⟩
        · cases hf
    rcases List.mem_cons.mp h with h | h
    · subst h
      simp only [fetch] at hf
      split at hf
      · rename_i d hd; exact ⟨d, hd⟩
      · cases hf
    · obtain ⟨avs', hf'⟩ := rest
      exact fetch_r hf' i h
end
section
variable {nm : Nat → Str} {ca : Ex → Addr} {G : Gh} {call : CallT} {j : Nat} {refs : List Nat} {W : WX} {X : Cx}
theorem doCall_ok {K : PySem.W.Frag} {P Pn : List (Addr × HO)} {e : Env} {σ : L2.St} {S H : Hp} {f : Nat} {as : List AA} {vs : List V} {Q : VK} (R : Rel K G (Pn ++ P) e σ S H) (ha : AAr K σ S as vs Pn)
    (q : Pst K ca G P W σ S (doCall call f as e) fun p e' S' H' => ∀ v, RV K G P e' σ S' H' p v → Q v H') : spOf K ca call f vs H Q (WE W σ) := by
  unfold doCall at q
  split at q
  · rename_i hn
    split at q
    · exact q.elim
    · rename_i avs hf
      have hpnd := R.pnd
      rw [List.map_append] at hpnd
      have hpn0 := List.nodup_append.mp hpnd
      obtain ⟨B, C, a1, a2, a3, a4, a5⟩ := args_of R (Lent e σ as) ha hf hn (fun q hq => List.mem_append_left _ hq) hpn0.1 (fun i d l h1 h2 h3 => ⟨i, d, h1, h2, h3⟩)
        fun l ⟨i, d, h1, h2, h3⟩ => ⟨i, d, h2, h3, fun z => ixs_lr hn i h1 z⟩
      refine ⟨_, avs, B, C, lendS_le R.sub, a1, a2, ?_⟩
      have hr := fetch_r hf
      split at q
      · exact q.elim
      · rename_i fr d os hc
        rw [hc]
        split at q
        · rename_i e1 hp
          intro v S2 H2 A rv
          obtain ⟨S3, c1, c2, c3, c4, c5, c6⟩ := R.called ha hn a3 a4 a5 A hp hr (okLend fr d && os.all okOut) (fun h => (and2 h).2)
          refine q S3 H2 c1 c2 v ?_
          cases fr with
          | false =>
            have rv : Rep K S2 v d := rv
            show Rep K S3 v d
            cases hth : (okLend false d && os.all okOut) with
            | false => rw [c3 hth]; exact rv
            | true =>
              refine rv.flat (c4 hth) ?_
              have := (and2 hth).1
              unfold okLend at this
              simpa using this
          | true =>
            obtain ⟨l, rfl, o, hB, hl⟩ := rv
            obtain ⟨u, hu, mu⟩ := o.2.some
            refine ⟨l, rfl, ⟨c5 l o.1, ?_⟩, fun i d' o' at' => ?_, fun q hq z => ?_, ?_⟩
            · cases hth : (okLend true d && os.all okOut) with
              | false => rw [c3 hth]; exact o.2
              | true =>
                have h1 := (and2 hth).1
                refine okOut_at (c4 hth) o.2 ?_
                cases d with
                | lst ds =>
                  unfold okLend at h1
                  simpa [flat, okOut] using h1
                | dk ds => cases h1
                | dt ds => cases h1
                | _ => exact o.2.elim
            · obtain ⟨d0, o0⟩ := c6 i d' o'
              obtain ⟨l', x1, x2, x3⟩ := R.own i d0 o0
              have := at_inj at' x1
              subst this
              obtain ⟨u', hu', _⟩ := x2.2.some
              rcases hl with hl | hl
              · rw [hl] at hu'; cases hu'
              · obtain ⟨q, hq, e4⟩ := List.mem_map.mp (a4 l hl)
                subst e4
                exact (R.pen q (List.mem_append_left _ hq)).2.2.1 i d0 o0 at'
            · rcases hl with hl | hl
              · have := (R.pen q (List.mem_append_right _ hq)).1
                rw [z, hl] at this; cases this
              · exact hpn0.2.2 l (a4 l hl) q.1 (List.mem_map.mpr ⟨q, hq, rfl⟩) z.symm
            · rcases hl with hl | hl
              · exact R.gfree hl
              · obtain ⟨q, hq, e4⟩ := List.mem_map.mp (a4 l hl)
                subst e4
                exact (R.pen q (List.mem_append_left _ hq)).2.2.2.1
        · exact q.elim
      · rename_i x os hc
        rw [hc]
        split at q
        · rename_i e1 hp
          intro S2 H2 A
          obtain ⟨S3, c1, c2, c3, c4, c5, c6⟩ := R.called ha hn a3 a4 a5 A hp hr (os.all okOut) (fun h => h)
          exact q S3 H2 c1 c2
        · exact q.elim
  · exact q.elim
theorem s_call {f : Nat} {as : As} {x : Expr} (g : Good nm ca call j X) (tk : Takes X W) (h : mE nm X.N X.env.scope (.call f as) x = true) (ih : ∀ b y, mE nm X.N X.env.scope b y = true → sizeOf b < sizeOf as → PE X y (tE X.K ca G call refs W b)) : PE X x (tE X.K ca G call refs W (.call f as)) := by
  unfold mE at h
  split at h
  · rename_i f' args kw pos
    obtain ⟨h, h5⟩ := and2 h
    obtain ⟨h, h4⟩ := and2 h
    obtain ⟨h, h3⟩ := and2 h
    obtain ⟨h1, h2⟩ := and2 h
    obtain rfl := List.isEmpty_iff.mp h2
    obtain ⟨p, rfl, hg, hok⟩ := isNameB_ok h1
    obtain ⟨k1, k2, k3⟩ := okNm_ok hok
    obtain ⟨pa, st⟩ := sAs (ca := ca) (G := G) (call := call) (refs := refs) (W := W) h5 ih
    obtain ⟨a, fd, ps, m1, m2, m3, m4⟩ := g.calls f (by simpa using h4)
    cases args with
    | nil => cases h3
    | cons y ys =>
      have st1 : starEach (y :: ys) X.env = (false, eval y X.env) :: starEach ys X.env ∧ starEach ys X.env = ys.map fun y => (false, eval y X.env) := by
        cases y <;> first | (refine ⟨rfl, ?_⟩; exact (List.cons.inj st).2) | (have := (List.cons.inj st).1; cases this)
      refine PE.weak (pe_callS m4 g.room hg m1 m2 m3 (passAt tk) pa k1 st1.1 (star_any st1.2)) fun σ H Q ⟨e, S, P, R, q⟩ => ⟨e, S, P, R, ?_⟩
      simp only [evE] at q
      cases hq : evAs call refs as e with
      | bad => rw [hq] at q; exact q.elim
      | exc x e1 => rw [hq] at q; exact fun S' H' Pn hs R1 => q S' H' hs R1.cutP
      | ok l e1 =>
        rw [hq] at q
        intro S' H' Pn hs R1 vs ha
        exact doCall_ok R1 ha (Pst.mono hs q)
  · cases h
end
end Vm

namespace Vm
open PySem PySem.Spec PyProof.Rows L2
/-- the n-th turn -/
def Serve (K : PySem.W.Frag) (S : Hp) (J : It) (n : Nat) (H : Hp) : Option D → Prop
  | some d => J.go n H ∧ ∀ x H', J.yld n H x H' → H' = H ∧ Rep K S x d
  | none => J.stop n H
/-- J serves what the interpreter walks -/
def Walk (K : PySem.W.Frag) (S : Hp) (σ : L2.St) : Wk → It → Prop
  | .st l, J => ∀ H n, Sub S H → Serve K S J n H l[n]?
  | .ow i _, J => ∃ l, At σ i l ∧ J = Itl K l
section
variable {K : PySem.W.Frag} {G : Gh} {P : List (Addr × HO)} {σ σ' : L2.St} {S S0 H : Hp} {e : Env}
theorem Serve.mono {J : It} {n : Nat} {o : Option D} (hs : Sub S0 S) (h : Serve K S0 J n H o) : Serve K S J n H o := by
  cases o with
  | none => exact h
  | some d => exact ⟨h.1, fun x H' y => ⟨(h.2 x H' y).1, (h.2 x H' y).2.mono hs⟩⟩
theorem serve_lst {a : Addr} {vs : List V} {l : List D} {n : Nat} (hq : SqL K H a vs) (r : RepL K S vs l) : Serve K S (Itl K a) n H l[n]? := by
  cases q : l[n]? with
  | none => exact ⟨vs, hq, by rw [r.length]; exact List.getElem?_eq_none_iff.mp q⟩
  | some d =>
    obtain ⟨x, hx1, hx2⟩ := r.get q
    refine ⟨⟨vs, x, hq, hx1⟩, fun y H' ⟨e1, e2⟩ => ?_⟩
    have := e2 vs hq
    rw [hx1] at this; cases this
    exact ⟨e1, hx2⟩
theorem Walk.look {w : Wk} {J : It} {n : Nat} {o : Option D} (h : Walk K S0 σ w J) (hs : Sub S0 S) (R : Rel K G P e σ' S H) (hx : ∀ i ∈ w.ix, σ'[i]? = σ[i]?) (hl : w.look e n = some o) : Serve K S J n H o := by
  cases w with
  | st l =>
    cases hl
    exact (h H n (hs.trans R.sub)).mono hs
  | ow i k =>
    obtain ⟨l, hat, rfl⟩ := h
    unfold Wk.look at hl
    dsimp only at hl
    split at hl
    · rename_i ds hp
      obtain rfl := Option.some.inj hl
      obtain ⟨v, h1, a, vs, rfl, ha, ra⟩ := R.pick hp
      rw [hx i (by simp [Wk.ix])] at h1
      have h2 : σ[i]? = some (some (.ref l)) := hat
      rw [h2] at h1; cases h1
      exact serve_lst (.of ha) ra
    · cases hl
/-- the things of a value -/
theorem walk_lst {a : Addr} {vs : List V} {l : List D} (hq : SqL K S a vs) (r : RepL K S vs l) : Walk K S σ (.st l) (Itl K a) := fun H n hs => serve_lst (sqL_sub hs hq) r
theorem walk_tup {a : Addr} {vs : List V} {l : List D} (ha : TupAt S a vs) (r : RepL K S vs l) : Walk K S σ (.st l) (Itt K a) := by
  intro H n hs
  cases q : l[n]? with
  | none => exact ⟨vs, ha.sq hs, by rw [r.length]; exact List.getElem?_eq_none_iff.mp q⟩
  | some d =>
    obtain ⟨x, hx1, hx2⟩ := r.get q
    refine ⟨⟨vs, x, ha.sq hs, hx1⟩, fun y H' ⟨e1, e2⟩ => ?_⟩
    have := e2 vs (ha.sq hs)
    rw [hx1] at this; cases this
    exact ⟨e1, hx2⟩
theorem walk_str {x : Str} : Walk K S σ (.st (x.cps.toList.map fun c => .str ⟨#[c]⟩)) (Its x) := by
  intro H n hs
  rw [List.getElem?_map]
  cases q : x.cps.toList[n]? with
  | none =>
    have := List.getElem?_eq_none_iff.mp q
    exact (by simpa using this : x.cps.size ≤ n)
  | some c =>
    have hlt := (List.getElem?_eq_some_iff.mp q).1
    refine ⟨(by simpa using hlt : n < x.cps.size), fun y H' ⟨e1, c', h1, h2⟩ => ⟨e1, ?_⟩⟩
    subst h2
    have : c' = c := by
      rw [← Array.getElem?_toList] at h1
      rw [q] at h1; cases h1; rfl
    subst this
    exact .str _
theorem walk_rng {lo : Int} {n : Nat} : Walk K S σ (.st (rngL lo n)) (Itr lo n) := by
  intro H k hs
  unfold rngL
  rw [List.getElem?_map]
  cases q : (List.range n)[k]? with
  | none =>
    have := List.getElem?_eq_none_iff.mp q
    exact (by simpa using this : n ≤ k)
  | some c =>
    have h1 := List.getElem?_eq_some_iff.mp q
    obtain ⟨hlt, h2⟩ := h1
    simp at hlt h2
    subst h2
    refine ⟨hlt, fun y H' ⟨e1, e2⟩ => ⟨e1, ?_⟩⟩
    subst e2
    exact .int _
theorem At.eq {i : Nat} {l : Addr} {v : V} (h : At σ i l) (h' : σ[i]? = some (some v)) : v = .ref l := by
  have h2 : σ[i]? = some (some (.ref l)) := h
  rw [h2] at h'; cases h'; rfl
end
section
variable {nm : Nat → Str} {ca : Ex → Addr} {G : Gh} {call : CallT} {j : Nat} {refs : List Nat} {W : WX} {X : Cx}
theorem PI.weak {tg y : Expr} {t t' : TI} (h : PI X tg y t) (k : ∀ σ H R, t' σ H R → t σ H R) : PI X tg y t' := ⟨fun pins s σ H R I q => h.run pins s σ H R I (k σ H R q)⟩
theorem PI.or3 {tg y : Expr} {t1 t2 t3 : TI} (h1 : PI X tg y t1) (h2 : PI X tg y t2) (h3 : PI X tg y t3) : PI X tg y (fun σ H R => t1 σ H R ∨ t2 σ H R ∨ t3 σ H R) := ⟨fun pins s σ H R I q => by
  rcases q with q | q | q
  · exact h1.run pins s σ H R I q
  · exact h2.run pins s σ H R I q
  · exact h3.run pins s σ H R I q⟩
def tSrc (K : PySem.W.Frag) (ca : Ex → Addr) (G : Gh) (call : CallT) (refs : List Nat) (W : WX) (src : Src) : TI := fun σ H R => ∃ e S P, Rel K G P e σ S H ∧ Pst K ca G P W σ S (evSrc call refs src e) fun w e' S' H' => ∀ J, Walk K S' σ w J → R J H'
theorem sSrc_ex {a : E} {y tg : Expr} (h : PE X y (tE X.K ca G call refs W a)) : PI X tg y (tSrc X.K ca G call refs W (.ex a)) := by
  refine PI.weak (PI.or3 (pi_list h) (pi_tup h) (pi_str h)) fun σ H Rr ⟨e, S, P, R0, q⟩ => ?_
  simp only [evSrc] at q
  cases hq : evE call refs a e with
  | bad => rw [hq] at q; exact q.elim
  | exc x e1 => rw [hq] at q; exact .inl ⟨e, S, P, R0, by rw [hq]; exact q⟩
  | ok p e1 =>
    rw [hq] at q
    obtain ⟨fr, d⟩ := p
    cases hi : itemsD d with
    | none => simp only [Res.bind, hi] at q; exact q.elim
    | some l =>
      have q : ∀ S' H', Sub S S' → Rel X.K G P e1 σ S' H' → ∀ J, Walk X.K S' σ (.st l) J → Rr J H' := by
        simp only [Res.bind, hi] at q
        exact q
      cases d with
      | tup ds =>
        cases hi
        refine .inr (.inl ⟨e, S, P, R0, ?_⟩)
        rw [hq]
        intro S1 H1 hs1 R1 v rv
        obtain ⟨S2, hs2, R2, r2⟩ := R1.rep rv
        cases r2 with
        | tup ha ra => exact ⟨_, rfl, ⟨_, ha.sq R2.sub⟩, q S2 H1 (hs1.trans hs2) R2 _ (walk_tup ha ra)⟩
      | lst ds =>
        cases hi
        refine .inl ⟨e, S, P, R0, ?_⟩
        rw [hq]
        intro S1 H1 hs1 R1 v rv
        obtain ⟨S2, hs2, R2, r2⟩ := R1.rep rv
        cases r2 with
        | lst ha ra => exact ⟨_, rfl, ⟨_, .of (R2.sub _ _ ha)⟩, q S2 H1 (hs1.trans hs2) R2 _ (walk_lst (.of ha) ra)⟩
      | sc ds =>
        cases hi
        refine .inl ⟨e, S, P, R0, ?_⟩
        rw [hq]
        intro S1 H1 hs1 R1 v rv
        obtain ⟨S2, hs2, R2, r2⟩ := R1.rep rv
        cases r2 with
        | sc ha => exact ⟨_, rfl, ⟨_, sqL_sub R2.sub ha⟩, q S2 H1 (hs1.trans hs2) R2 _ (walk_lst ha (RepL.ints ds))⟩
      | str z =>
        cases hi
        refine .inr (.inr ⟨e, S, P, R0, ?_⟩)
        rw [hq]
        intro S1 H1 hs1 R1 v rv
        obtain ⟨S2, hs2, R2, r2⟩ := R1.rep rv
        cases r2 with
        | str z => exact ⟨_, rfl, q S2 H1 (hs1.trans hs2) R2 _ walk_str⟩
      | _ => cases hi
theorem sSrc_own {i : Nat} {y tg : Expr} (h : PE X y (tVar i)) : PI X tg y (tSrc X.K ca G call refs W (.own i)) := by
  refine PI.weak (PI.or3 (pi_list h) (pi_tup h) (pi_str h)) fun σ H Rr ⟨e, S, P, R0, q⟩ => ?_
  simp only [evSrc] at q
  split at q
  · rename_i l hl
    obtain ⟨a, hat, ⟨_, vs, ha, ra⟩, _⟩ := R0.own i _ (.inl hl)
    exact .inl ⟨.ref a, hat, a, rfl, ⟨vs, .of ha⟩, q S H (.refl S) R0 _ ⟨a, hat, rfl⟩⟩
  · rename_i d hd
    obtain ⟨v, hv, r⟩ := R0.val i d hd
    cases hi : itemsD d with
    | none => simp only [hi] at q; exact q.elim
    | some l =>
      simp only [hi] at q
      have q0 : ∀ J, Walk X.K S σ (.st l) J → Rr J H := q S H (.refl S) R0
      cases r with
      | tup ha ra => cases hi; exact .inr (.inl ⟨_, hv, _, rfl, ⟨_, ha.sq R0.sub⟩, q0 _ (walk_tup ha ra)⟩)
      | lst ha ra => cases hi; exact .inl ⟨_, hv, _, rfl, ⟨_, .of (R0.sub _ _ ha)⟩, q0 _ (walk_lst (.of ha) ra)⟩
      | sc ha => cases hi; exact .inl ⟨_, hv, _, rfl, ⟨_, sqL_sub R0.sub ha⟩, q0 _ (walk_lst ha (RepL.ints _))⟩
      | str z => cases hi; exact .inr (.inr ⟨_, hv, _, rfl, q0 _ walk_str⟩)
      | _ => cases hi
  · exact q.elim
theorem sSrc_rng {es : Es} {args : List Expr} {p pos : Pos} {tg : Expr} (g : Good nm ca call j X) (hg : Gl X "range") (hr : rngE es = true) (h : mEs nm X.N X.env.scope es args = true) (ih : ∀ a y, mE nm X.N X.env.scope a y = true → sizeOf a < sizeOf es → PE X y (tE X.K ca G call refs W a)) :
    PI X tg (.Call (.Name "range" p) args [] pos) (tSrc X.K ca G call refs W (.rng es)) := by
  have hp := sPs (ca := ca) (G := G) (call := call) (refs := refs) (W := W) h ih
  have hst := mEs_stars (env := X.env) h
  cases es with
  | nil => cases hr
  | cons a r => cases r with
    | nil =>
      obtain ⟨y, ys, rfl, m1, h⟩ := mEs_cons h
      obtain rfl := mEs_nil h
      refine PI.weak (pi_range1 hg (g.free "range" (by simp [freeNames])) hp hst) fun σ H Rr ⟨e, S, P, R0, q⟩ => ⟨e, S, P, R0, ?_⟩
      simp only [evSrc] at q
      exact (Pst.bind q).imp fun os e1 S1 H1 hs1 R1 q1 vs ov => by
        obtain ⟨ds, sl, q2⟩ := opn_some R1 ov q1
        split at q2
        case isFalse => exact q2.elim
        rename_i hrk
        unfold rngD at q2
        split at q2
        · rename_i n
          by_cases hn : n.toNat < 2 ^ 20 ∧ (-n).toNat ≤ 2 ^ 61
          · rw [if_pos hn] at q2
            obtain ⟨v, rfl, s1⟩ := sl.one
            obtain rfl := see_int s1
            exact ⟨n, rfl, by omega, by omega, q2 S1 H1 (.refl S1) R1 _ walk_rng⟩
          · rw [if_neg hn] at q2; exact q2.elim
        · -- two
          cases hrk
        · exact q2.elim
    | cons b r => cases r with
      | cons _ _ => cases hr
      | nil =>
        obtain ⟨y, ys, rfl, m1, h⟩ := mEs_cons h
        obtain ⟨z, zs, rfl, m2, h⟩ := mEs_cons h
        obtain rfl := mEs_nil h
        refine PI.weak (pi_range2 hg (g.free "range" (by simp [freeNames])) hp hst (by rw [plain_star (mE_plain m2)]; rfl)) fun σ H Rr ⟨e, S, P, R0, q⟩ => ⟨e, S, P, R0, ?_⟩
        simp only [evSrc] at q
        exact (Pst.bind q).imp fun os e1 S1 H1 hs1 R1 q1 vs ov => by
          obtain ⟨ds, sl, q2⟩ := opn_some R1 ov q1
          split at q2
          case isFalse => exact q2.elim
          rename_i hrk
          unfold rngD at q2
          split at q2
          · cases hrk
          · rename_i n m
            by_cases hn : (n.natAbs < 2 ^ 60 ∧ m.natAbs < 2 ^ 60) ∧ (m - n).toNat < 2 ^ 20
            · rw [if_pos hn] at q2
              obtain ⟨v, w, rfl, s1, s2⟩ := sl.two
              obtain rfl := see_int s1
              obtain rfl := see_int s2
              exact ⟨n, m, rfl, by omega, q2 S1 H1 (.refl S1) R1 _ walk_rng⟩
            · rw [if_neg hn] at q2; exact q2.elim
          · exact q2.elim
end
end Vm

namespace Vm
open PySem PySem.Spec PyProof.Rows L2
section
variable {K : PySem.W.Frag} {G : Gh} {P : List (Addr × HO)} {σ σ' : L2.St} {S S0 H : Hp} {e : Env}
/-- a value is stored -/
theorem Rel.sto (R : Rel K G P e σ S H) {i : Nat} {v : V} {d : D} (r : Rep K S v d) (hi : i < e.length) (hr : ∀ r ∈ G.R, r.1 ≠ i) : Rel K G P (e.set i (.val d)) (σ.set i (some v)) S H := by
  have hs : i < σ.length := by rw [← R.len]; exact hi
  have old : ∀ {k d'}, IsOwn (e.set i (.val d)) k d' → k ≠ i ∧ IsOwn e k d' := fun {k d'} q => by
    by_cases z : k = i
    · subst z
      rcases q with q | q <;> (rw [List.getElem?_set_self hi] at q; cases q)
    · refine ⟨z, ?_⟩
      rcases q with q | q
      · rw [List.getElem?_set_ne (Ne.symm z)] at q; exact .inl q
      · rw [List.getElem?_set_ne (Ne.symm z)] at q; exact .inr q
  have at' : ∀ {k l}, k ≠ i → At (σ.set i (some v)) k l → At σ k l := fun {k l} z q => by
    have q : (σ.set i (some v))[k]? = some (some (.ref l)) := q
    rw [List.getElem?_set_ne (Ne.symm z)] at q; exact q
  exact {
    sub := R.sub, fr := R.fr, s0 := R.s0, new := R.new
    len := by rw [List.length_set, List.length_set]; exact R.len
    val := fun k d' q => by
      by_cases z : k = i
      · subst z
        rw [List.getElem?_set_self hi] at q; cases q
        exact ⟨v, by rw [List.getElem?_set_self hs], r⟩
      · rw [List.getElem?_set_ne (Ne.symm z)] at q ⊢
        exact R.val k d' q
    own := fun k d' q => by
      obtain ⟨z, q⟩ := old q
      obtain ⟨l, a, o, g⟩ := R.own k d' q
      refine ⟨l, ?_, o, g⟩
      show (σ.set i (some v))[k]? = _
      rw [List.getElem?_set_ne (Ne.symm z)]; exact a
    sep := fun a b d1 d2 l q1 q2 h1 h2 => R.sep a b d1 d2 l (old q1).2 (old q2).2 (at' (old q1).1 h1) (at' (old q2).1 h2)
    pen := fun q hq => let ⟨a, b, c, x⟩ := R.pen q hq; ⟨a, b, fun k d' z w => c k d' (old z).2 (at' (old z).1 w), x⟩
    pnd := R.pnd
    refs := fun r hr' => by
      show (σ.set i (some v))[r.1]? = _
      rw [List.getElem?_set_ne (Ne.symm (hr r hr'))]; exact R.refs r hr' }
/-- a new list is stored -/
theorem Rel.stoOwn (R : Rel K G P e σ S H) {i : Nat} {l : Addr} {d : D} (F : Fre K G P e σ S H l d) (hi : i < e.length) (hr : ∀ r ∈ G.R, r.1 ≠ i) : Rel K G P (e.set i (.own d)) (σ.set i (some (.ref l))) S H := by
  have hs : i < σ.length := by rw [← R.len]; exact hi
  have old : ∀ {k d'}, IsOwn (e.set i (.own d)) k d' → (k = i ∧ d' = d) ∨ (k ≠ i ∧ IsOwn e k d') := fun {k d'} q => by
    by_cases z : k = i
    · subst z
      rcases q with q | q
      · rw [List.getElem?_set_self hi] at q; cases q; exact .inl ⟨rfl, rfl⟩
      · rw [List.getElem?_set_self hi] at q; cases q
    · refine .inr ⟨z, ?_⟩
      rcases q with q | q
      · rw [List.getElem?_set_ne (Ne.symm z)] at q; exact .inl q
      · rw [List.getElem?_set_ne (Ne.symm z)] at q; exact .inr q
  have at' : ∀ {k l'}, k ≠ i → At (σ.set i (some (.ref l))) k l' → At σ k l' := fun {k l'} z q => by
    have q : (σ.set i (some (.ref l)))[k]? = some (some (.ref l')) := q
    rw [List.getElem?_set_ne (Ne.symm z)] at q; exact q
  have ati : ∀ {l'}, At (σ.set i (some (.ref l))) i l' → l' = l := fun {l'} q => by
    have q : (σ.set i (some (.ref l)))[i]? = some (some (.ref l')) := q
    rw [List.getElem?_set_self hs] at q; cases q; rfl
  exact {
    sub := R.sub, fr := R.fr, s0 := R.s0, new := R.new
    len := by rw [List.length_set, List.length_set]; exact R.len
    val := fun k d' q => by
      by_cases z : k = i
      · subst z
        rw [List.getElem?_set_self hi] at q; cases q
      · rw [List.getElem?_set_ne (Ne.symm z)] at q ⊢
        exact R.val k d' q
    own := fun k d' q => by
      rcases old q with ⟨rfl, rfl⟩ | ⟨z, q⟩
      · refine ⟨l, ?_, F.own, F.gh⟩
        show (σ.set k (some (.ref l)))[k]? = _
        rw [List.getElem?_set_self hs]
      · obtain ⟨l', a, o, g⟩ := R.own k d' q
        refine ⟨l', ?_, o, g⟩
        show (σ.set i (some (.ref l)))[k]? = _
        rw [List.getElem?_set_ne (Ne.symm z)]; exact a
    sep := fun a b d1 d2 l' q1 q2 h1 h2 => by
      rcases old q1 with ⟨rfl, rfl⟩ | ⟨z1, o1⟩
      · rcases old q2 with ⟨rfl, rfl⟩ | ⟨z2, o2⟩
        · rfl
        · have := ati h1
          subst this
          exact absurd (at' z2 h2) (F.noe b d2 o2)
      · rcases old q2 with ⟨rfl, rfl⟩ | ⟨z2, o2⟩
        · have := ati h2
          subst this
          exact absurd (at' z1 h1) (F.noe a d1 o1)
        · exact R.sep a b d1 d2 l' o1 o2 (at' z1 h1) (at' z2 h2)
    pen := fun q hq => by
      obtain ⟨a, b, c, x⟩ := R.pen q hq
      refine ⟨a, b, fun k d' z w => ?_, x⟩
      rcases old z with ⟨rfl, rfl⟩ | ⟨z1, q1⟩
      · exact F.nop q hq (ati w)
      · exact c k d' q1 (at' z1 w)
    pnd := R.pnd
    refs := fun r hr' => by
      show (σ.set i (some (.ref l)))[r.1]? = _
      rw [List.getElem?_set_ne (Ne.symm (hr r hr'))]; exact R.refs r hr' }
theorem clr_len : ∀ {ts : List Nat} {e : Env}, (clr ts e).length = e.length
  | [], _ => rfl
  | i :: r, e => by show ((clr r e).set i .emp).length = _; rw [List.length_set, clr_len]
theorem clr_get : ∀ {ts : List Nat} {e : Env} {i : Nat} {s : Slot}, (clr ts e)[i]? = some s → (i ∈ ts ∧ s = .emp) ∨ (i ∉ ts ∧ e[i]? = some s)
  | [], e, i, s, h => .inr ⟨by simp, h⟩
  | k :: r, e, i, s, h => by
    have h : ((clr r e).set k .emp)[i]? = some s := h
    by_cases z : k = i
    · subst z
      have hlt : k < (clr r e).length := by
        have := (List.getElem?_eq_some_iff.mp h).1
        rwa [List.length_set] at this
      rw [List.getElem?_set_self hlt] at h; cases h
      exact .inl ⟨List.mem_cons_self, rfl⟩
    · rw [List.getElem?_set_ne z] at h
      rcases clr_get h with ⟨h1, h2⟩ | ⟨h1, h2⟩
      · exact .inl ⟨List.mem_cons_of_mem _ h1, h2⟩
      · exact .inr ⟨fun w => by rcases List.mem_cons.mp w with w | w; exact z w.symm; exact h1 w, h2⟩
theorem clr_out : ∀ {ts : List Nat} {e : Env} {i : Nat}, i ∉ ts → (clr ts e)[i]? = e[i]?
  | [], _, _, _ => rfl
  | k :: r, e, i, h => by
    show ((clr r e).set k .emp)[i]? = _
    rw [List.getElem?_set_ne (fun (z : k = i) => h (by rw [z]; exact List.mem_cons_self)), clr_out fun w => h (List.mem_cons_of_mem _ w)]
theorem Rel.wipe (R : Rel K G P e σ S H) {ts : List Nat} (hr : ∀ r ∈ G.R, r.1 ∉ ts) : Rel K G P (clr ts e) (L2.wipe σ ts) S H := by
  have old : ∀ {k d}, IsOwn (clr ts e) k d → k ∉ ts ∧ IsOwn e k d := fun {k d} q => by
    rcases q with q | q
    · rcases clr_get q with ⟨_, z⟩ | ⟨h1, h2⟩
      · cases z
      · exact ⟨h1, .inl h2⟩
    · rcases clr_get q with ⟨_, z⟩ | ⟨h1, h2⟩
      · cases z
      · exact ⟨h1, .inr h2⟩
  have at' : ∀ {k l}, k ∉ ts → At (L2.wipe σ ts) k l → At σ k l := fun {k l} z q => by
    have q : (L2.wipe σ ts)[k]? = some (some (.ref l)) := q
    rw [wipe_out z] at q; exact q
  exact {
    sub := R.sub, fr := R.fr, s0 := R.s0, new := R.new
    len := by rw [clr_len, wipe_length]; exact R.len
    val := fun k d q => by
      rcases clr_get q with ⟨_, z⟩ | ⟨h1, h2⟩
      · cases z
      · obtain ⟨v, a, r⟩ := R.val k d h2
        exact ⟨v, by rw [wipe_out h1]; exact a, r⟩
    own := fun k d q => by
      obtain ⟨z, q⟩ := old q
      obtain ⟨l, a, o, g⟩ := R.own k d q
      exact ⟨l, by show (L2.wipe σ ts)[k]? = _; rw [wipe_out z]; exact a, o, g⟩
    sep := fun a b d1 d2 l q1 q2 h1 h2 => R.sep a b d1 d2 l (old q1).2 (old q2).2 (at' (old q1).1 h1) (at' (old q2).1 h2)
    pen := fun q hq => let ⟨a, b, c, x⟩ := R.pen q hq; ⟨a, b, fun k d' z w => c k d' (old z).2 (at' (old z).1 w), x⟩
    pnd := R.pnd
    refs := fun r hr' => by
      show (L2.wipe σ ts)[r.1]? = _
      rw [wipe_out (hr r hr')]; exact R.refs r hr' }
/-- a waiting list is changed -/
theorem Rel.putP {l : Addr} {u u' : HO} (R : Rel K G ((l, u) :: P) e σ S H) (mu : Mut (some u')) : Rel K G ((l, u') :: P) e σ S (upd H l u') := by
  obtain ⟨p1, p2, p3, p4, p5⟩ := R.pen (l, u) List.mem_cons_self
  have nd := List.nodup_cons.mp R.pnd
  exact {
    sub := R.sub.updR p2
    fr := fun b o hb hB => by
      have : b ≠ l := fun z => by
        subst z
        rcases p4 with p4 | p4
        · have p4 : G.H b = none := p4
          rw [p4] at hb; cases hb
        · exact hB p4
      rw [upd_ne this]; exact R.fr b o hb hB
    s0 := R.s0, new := R.new, len := R.len, val := R.val
    own := fun k d q => by
      obtain ⟨l', a, o, g⟩ := R.own k d q
      have : l' ≠ l := fun z => p3 k d q (z ▸ a)
      exact ⟨l', a, ⟨o.1, o.2.mono (.refl S) (upd_ne this)⟩, g⟩
    sep := R.sep
    pen := fun q hq => by
      rcases List.mem_cons.mp hq with rfl | hq
      · exact ⟨upd_same, p2, p3, p4, mu⟩
      · obtain ⟨a, b⟩ := R.pen q (List.mem_cons_of_mem _ hq)
        have : q.1 ≠ l := fun z => nd.1 (List.mem_map.mpr ⟨q, hq, z⟩)
        exact ⟨by rw [upd_ne this]; exact a, b⟩
    pnd := R.pnd, refs := R.refs }
theorem back_len : ∀ {ts : List Nat} {e2 : Env}, (back e ts e2).length = e2.length
  | [], _ => rfl
  | i :: r, e2 => by show ((back e r e2).set i _).length = _; rw [List.length_set, back_len]
theorem back_get : ∀ {ts : List Nat} {e2 : Env} {i : Nat} {s : Slot}, e2.length = e.length → (back e ts e2)[i]? = some s → (i ∈ ts ∧ e[i]? = some s) ∨ (i ∉ ts ∧ e2[i]? = some s)
  | [], e2, i, s, _, h => .inr ⟨by simp, h⟩
  | k :: r, e2, i, s, hle, h => by
    have h : ((back e r e2).set k (e.getD k .emp))[i]? = some s := h
    by_cases z : k = i
    · subst z
      have hlt : k < (back e r e2).length := by
        have := (List.getElem?_eq_some_iff.mp h).1
        rwa [List.length_set] at this
      rw [List.getElem?_set_self hlt] at h
      rw [back_len, hle] at hlt
      refine .inl ⟨List.mem_cons_self, ?_⟩
      rw [List.getD_eq_getElem?_getD, List.getElem?_eq_getElem hlt] at h
      rw [List.getElem?_eq_getElem hlt]; exact h
    · rw [List.getElem?_set_ne z] at h
      rcases back_get hle h with ⟨h1, h2⟩ | ⟨h1, h2⟩
      · exact .inl ⟨List.mem_cons_of_mem _ h1, h2⟩
      · exact .inr ⟨fun w => by rcases List.mem_cons.mp w with w | w; exact z w.symm; exact h1 w, h2⟩
/-- behind a block -/
theorem Rel.back {H0 : Hp} {P0 : List (Addr × HO)} {e2 : Env} {ts refs : List Nat} (R0 : Rel K G P0 e σ S0 H0) (hs : Sub S0 S) (hk : hideOk refs ts e = true) (R : Rel K G P (clr ts e2) (L2.wipe σ ts) S H) :
    Rel K G P (Vm.back e ts e2) σ S H ∧ ∀ k d, IsOwn (Vm.back e ts e2) k d → k ∉ ts ∧ IsOwn (clr ts e2) k d := by
  have le : e2.length = e.length := by
    have := R.len
    rw [clr_len, wipe_length] at this
    rw [this, R0.len]
  have key : ∀ {i : Nat} {s : Slot}, (Vm.back e ts e2)[i]? = some s → (i ∈ ts ∧ e[i]? = some s ∧ (s = .emp ∨ ∃ d, s = .val d)) ∨ (i ∉ ts ∧ (clr ts e2)[i]? = some s) := fun {i s} h => by
    rcases back_get le h with ⟨h1, h2⟩ | ⟨h1, h2⟩
    · refine .inl ⟨h1, h2, ?_⟩
      have := (and2 (List.all_eq_true.mp hk i h1)).2
      rw [h2] at this
      cases s with
      | emp => exact .inl rfl
      | val d => exact .inr ⟨d, rfl⟩
      | _ => cases this
    · exact .inr ⟨h1, by rw [clr_out h1]; exact h2⟩
  have old : ∀ k d, IsOwn (Vm.back e ts e2) k d → k ∉ ts ∧ IsOwn (clr ts e2) k d := fun k d q => by
    rcases q with q | q
    · rcases key q with ⟨_, _, z | ⟨_, z⟩⟩ | ⟨h1, h2⟩
      · cases z
      · cases z
      · exact ⟨h1, .inl h2⟩
    · rcases key q with ⟨_, _, z | ⟨_, z⟩⟩ | ⟨h1, h2⟩
      · cases z
      · cases z
      · exact ⟨h1, .inr h2⟩
  have at' : ∀ {k l}, k ∉ ts → At σ k l → At (L2.wipe σ ts) k l := fun {k l} z q => by
    show (L2.wipe σ ts)[k]? = _
    rw [wipe_out z]; exact q
  refine ⟨{
    sub := R.sub, fr := R.fr, s0 := R.s0, new := R.new
    len := by rw [back_len, le]; exact R0.len
    val := fun k d q => by
      rcases key q with ⟨h1, h2, _⟩ | ⟨h1, h2⟩
      · obtain ⟨v, a, r⟩ := R0.val k d h2
        exact ⟨v, a, r.mono hs⟩
      · obtain ⟨v, a, r⟩ := R.val k d h2
        rw [wipe_out h1] at a
        exact ⟨v, a, r⟩
    own := fun k d q => by
      obtain ⟨z, q⟩ := old k d q
      obtain ⟨l, a, o, g⟩ := R.own k d q
      have a : (L2.wipe σ ts)[k]? = some (some (.ref l)) := a
      rw [wipe_out z] at a
      exact ⟨l, a, o, g⟩
    sep := fun a b d1 d2 l q1 q2 h1 h2 => R.sep a b d1 d2 l (old _ _ q1).2 (old _ _ q2).2 (at' (old _ _ q1).1 h1) (at' (old _ _ q2).1 h2)
    pen := fun q hq => let ⟨a, b, c, x⟩ := R.pen q hq; ⟨a, b, fun k d' z w => c k d' (old _ _ z).2 (at' (old _ _ z).1 w), x⟩
    pnd := R.pnd
    refs := R0.refs }, old⟩
end
/-! ### targets -/
def gNs : List Nat → TGs
  | [] => gNil
  | i :: r => gCons (gName i) (gNs r)
def gT (K : PySem.W.Frag) (tp : Bool) (ts : List Nat) : TG := match tp, ts with
  | false, [i] => gName i
  | false, _ => fun _ _ _ _ => False
  | true, ts => gTup K ts.length (gNs ts)
section
variable {X : Cx}
theorem stoB_pg {fn : Str → Bool} {i : Nat} {y : Expr} (hnd : X.N.Nodup) (hf : ∀ x, fn x = true → X.fn x = true) (h : stoB X.N fn X.env.scope i y = true) : PG X y (gName i) ∧ (assignEach [y] X.env) = [(false, assign y X.env)] := by
  unfold stoB at h
  split at h
  · rename_i x pos
    obtain ⟨h, h4⟩ := and2 h
    obtain ⟨h, h3⟩ := and2 h
    obtain ⟨h1, h2⟩ := and2 h
    refine ⟨pg_name hnd (of_decide_eq_true h1) (locB_ok h2) ?_, rfl⟩
    rcases Bool.or_eq_true_iff.mp h4 with z | z
    · exact .inl (hf _ z)
    · exact .inr (of_decide_eq_true z)
  · cases h
theorem stosB_pg {fn : Str → Bool} (hnd : X.N.Nodup) (hf : ∀ x, fn x = true → X.fn x = true) : ∀ {ts : List Nat} {l : List Expr}, stosB X.N fn X.env.scope ts l = true → PGs X l (gNs ts) ∧ (assignEach l X.env).length = ts.length ∧ (assignEach l X.env).findIdx? (·.1) = none
  | [], l, h => by
    unfold stosB at h
    obtain rfl := List.isEmpty_iff.mp h
    exact ⟨pgs_nil, rfl, rfl⟩
  | i :: ts, l, h => by
    unfold stosB at h
    split at h
    · rename_i y ys
      obtain ⟨h1, h2⟩ := and2 h
      obtain ⟨p, e1⟩ := stoB_pg hnd hf h1
      obtain ⟨ps, e2, e3⟩ := stosB_pg hnd hf h2
      have e0 : assignEach (y :: ys) X.env = (false, assign y X.env) :: assignEach ys X.env := by
        unfold stoB at h1
        split at h1
        · rfl
        · cases h1
      refine ⟨pgs_cons p ps (by rw [e0]; rfl), by rw [e0, List.length_cons, e2, List.length_cons], ?_⟩
      rw [e0, List.findIdx?_cons]
      simp [e3]
    · cases h
theorem tgtB_pg {fn : Str → Bool} {tp : Bool} {ts : List Nat} {y : Expr} (hc : X.calm = true) (hnd : X.N.Nodup) (hf : ∀ x, fn x = true → X.fn x = true) (h : tgtB X.N fn X.env.scope tp ts y = true) : PG X y (gT X.K tp ts) := by
  unfold tgtB at h
  cases tp with
  | false =>
    dsimp only at h
    split at h
    · exact (stoB_pg hnd hf h).1
    · cases h
  | true =>
    dsimp only at h
    split at h
    · obtain ⟨h1, h2, h3⟩ := stosB_pg hnd hf h
      exact pg_tup hc h1 h2 h3
    · cases h
end
section
variable {K : PySem.W.Frag} {G : Gh} {P : List (Addr × HO)} {σ : L2.St} {S H : Hp} {e e1 : Env} {refs : List Nat}
theorem sto_ok {i : Nat} {s : Slot} {r : Env} (h : Vm.sto refs i s e = .ok () r) : i ∉ refs ∧ i < e.length ∧ r = e.set i s := by
  unfold Vm.sto at h
  split at h
  · cases h
  · rename_i z
    cases h
    exact ⟨fun w => z (.inl w), by rcases Nat.lt_or_ge i e.length with w | w; exact w; exact absurd (.inr w) z, rfl⟩
theorem stoL_run (hR : ∀ r ∈ G.R, r.1 ∈ refs) {Q : L2.St → Hp → Prop} : ∀ {ts : List Nat} {vs : List V} {ds : List D} {e : Env} {σ : L2.St}, Rel K G P e σ S H → RepL K S vs ds → stoL refs ts ds e = .ok () e1 →
    (∀ σ2, Rel K G P e1 σ2 S H → σ2.length = σ.length → (∀ i, i ∉ ts → σ2[i]? = σ[i]?) → Q σ2 H) → gNs ts vs σ H Q
  | [], _, _, e, σ, R, .nil, h, k => by
    cases h
    exact ⟨rfl, k σ R rfl fun _ _ => rfl⟩
  | i :: ts, _, _, e, σ, R, .cons (v := v) (d := d) r rs, h, k => by
    simp only [stoL] at h
    cases hq : Vm.sto refs i (.val d) e with
    | bad => rw [hq] at h; cases h
    | exc x e' => rw [hq] at h; cases h
    | ok a e2 =>
      rw [hq] at h
      obtain ⟨h1, h2, rfl⟩ := sto_ok hq
      refine ⟨v, _, rfl, ?_⟩
      show gNs ts _ (σ.set i (some v)) H Q
      refine stoL_run hR (R.sto r h2 fun r hr z => h1 (z ▸ hR r hr)) rs h fun σ2 R2 hl hx => k σ2 R2 (hl.trans (List.length_set ..)) fun k' hk => ?_
      rw [hx k' fun w => hk (List.mem_cons_of_mem _ w), List.getElem?_set_ne (fun z => hk (by rw [← z]; exact List.mem_cons_self))]
  | [], _, _, e, σ, R, .cons _ _, h, k => by cases h
  | _ :: _, _, _, e, σ, R, .nil, h, k => by cases h
theorem stoL_len : ∀ {ts : List Nat} {ds : List D} {e : Env}, stoL refs ts ds e = .ok () e1 → ds.length = ts.length
  | [], [], _, _ => rfl
  | i :: ts, d :: ds, e, h => by
    simp only [stoL] at h
    cases hq : Vm.sto refs i (.val d) e with
    | bad => rw [hq] at h; cases h
    | exc x e' => rw [hq] at h; cases h
    | ok a e2 => rw [hq] at h; rw [List.length_cons, List.length_cons, stoL_len h]
  | [], _ :: _, _, h => by cases h
  | _ :: _, [], _, h => by cases h
theorem stoT_run (hR : ∀ r ∈ G.R, r.1 ∈ refs) {tp : Bool} {ts : List Nat} {v : V} {d : D} (R : Rel K G P e σ S H) (r : Rep K S v d) (h : stoT refs tp ts d e = .ok () e1) {Q : L2.St → Hp → Prop}
    (k : ∀ σ2, Rel K G P e1 σ2 S H → σ2.length = σ.length → (∀ i, i ∉ ts → σ2[i]? = σ[i]?) → Q σ2 H) : gT K tp ts v σ H Q := by
  unfold stoT at h
  split at h
  · rename_i i _
    obtain ⟨h1, h2, rfl⟩ := sto_ok h
    exact k _ (R.sto r h2 fun r hr z => h1 (z ▸ hR r hr)) (List.length_set ..) fun k' hk => List.getElem?_set_ne (fun z => hk (by rw [← z]; exact List.mem_cons_self))
  · rename_i l
    cases r with
    | tup ha ra => exact ⟨_, _, rfl, ha.sq R.sub, by rw [ra.length, stoL_len h], stoL_run hR R ra h k⟩
  · cases h
end
end Vm

namespace Vm
open PySem PySem.Spec PyProof.Rows L2
def IH (nm : Nat → Str) (ca : Ex → Addr) (call : CallT) (j : Nat) (n : Nat) : Prop := ∀ (a : E), sizeOf a < n → ∀ (X : Cx) (G : Gh) (refs : List Nat) (W : WX), Good nm ca call j X → Takes X W → (∀ r ∈ G.R, r.1 ∈ refs) →
  ∀ x, mE nm X.N X.env.scope a x = true → PE X x (tE X.K ca G call refs W a) ∧ (tstB a = true → PT X x (tT X.K ca G call refs W a))
section
variable {elt : Env → Res (Bool × D)} {cond : Env → Res Bool} {st : D → Env → Res Unit} {w : Wk}
theorem compL_ok {k i : Nat} {e e2 : Env} {l : List D} (h : compL elt cond st w (k + 1) i e = .ok l e2) : (w.look e i = some none ∧ l = [] ∧ e2 = e) ∨ ∃ d e3 b e4, w.look e i = some (some d) ∧ st d e = .ok () e3 ∧ cond e3 = .ok b e4 ∧
    ((b = false ∧ compL elt cond st w k (i + 1) e4 = .ok l e2) ∨ (b = true ∧ ∃ p e5 l3, elt e4 = .ok p e5 ∧ compL elt cond st w k (i + 1) e5 = .ok l3 e2 ∧ l = p.2 :: l3)) := by
  unfold compL at h
  split at h
  · rename_i h1; cases h; exact .inl ⟨h1, rfl, rfl⟩
  · rename_i d h1
    split at h
    · rename_i e3 h2
      split at h
      · rename_i e4 h3
        split at h
        · rename_i p e5 h4
          split at h
          · rename_i l3 e6 h5
            cases h
            exact .inr ⟨d, e3, true, e4, h1, h2, h3, .inr ⟨rfl, p, e5, l3, h4, h5, rfl⟩⟩
          · cases h
        · cases h
      · rename_i e4 h3
        exact .inr ⟨d, e3, false, e4, h1, h2, h3, .inl ⟨rfl, h⟩⟩
      · cases h
    · cases h
  · cases h
theorem compL_ok0 {i : Nat} {e e2 : Env} {l : List D} (h : compL elt cond st w 0 i e = .ok l e2) : w.look e i = some none ∧ l = [] ∧ e2 = e := by
  unfold compL at h
  split at h
  · rename_i h1; cases h; exact ⟨h1, rfl, rfl⟩
  · cases h
end
theorem look_clr {w : Wk} {ts : List Nat} {e : Env} {n : Nat} (h : ∀ i ∈ w.ix, i ∉ ts) : w.look (clr ts e) n = w.look e n := by
  cases w with
  | st l => rfl
  | ow i k =>
    unfold Wk.look
    dsimp only
    have : pk (clr ts e) i = pk e i := by unfold pk; rw [clr_out (h i (by simp [Wk.ix]))]
    rw [this]
theorem wipe_eq {σ σ2 : L2.St} {ts : List Nat} (hl : σ2.length = σ.length) (h : ∀ i, i ∉ ts → σ2[i]? = σ[i]?) : L2.wipe σ2 ts = L2.wipe σ ts := by
  have key : ∀ {σ : L2.St} {ts : List Nat} {i : Nat}, i ∈ ts → i < σ.length → (L2.wipe σ ts)[i]? = some none := by
    intro σ ts
    induction ts with
    | nil => intro i h; cases h
    | cons k r ih =>
      intro i h hlt
      show ((L2.wipe σ r).set k none)[i]? = _
      by_cases z : k = i
      · subst z; rw [List.getElem?_set_self (by rw [wipe_length]; exact hlt)]
      · rw [List.getElem?_set_ne z]
        rcases List.mem_cons.mp h with h | h
        · exact absurd h.symm z
        · exact ih h hlt
  refine List.ext_getElem? fun i => ?_
  by_cases hi : i ∈ ts
  · by_cases hlt : i < σ.length
    · rw [key hi hlt, key hi (by rw [hl]; exact hlt)]
    · rw [List.getElem?_eq_none (by rw [wipe_length, hl]; omega), List.getElem?_eq_none (by rw [wipe_length]; omega)]
  · rw [wipe_out hi, wipe_out hi, h i hi]
theorem wipe_idem {σ : L2.St} {ts : List Nat} : L2.wipe (L2.wipe σ ts) ts = L2.wipe σ ts := wipe_eq (wipe_length ..) fun i h => wipe_out h
theorem own_ts {N : List Str} : ∀ {ts : List Nat}, (ts.filterMap fun i => (N[i]?).map fun x => (x, i)).length = ts.length → (ts.filterMap fun i => (N[i]?).map fun x => (x, i)).map (·.2) = ts
  | [], _ => rfl
  | i :: r, h => by
    cases hN : N[i]? with
    | none =>
      rw [List.filterMap_cons, hN] at h
      have : (List.filterMap (fun i => Option.map (fun x => (x, i)) N[i]?) r).length ≤ r.length := List.length_filterMap_le ..
      simp at h
      omega
    | some x =>
      rw [List.filterMap_cons, hN] at h ⊢
      simp only [Option.map_some, List.map_cons] at h ⊢
      rw [own_ts (by simpa using h)]
section
variable {nm : Nat → Str} {ca : Ex → Addr} {G : Gh} {call : CallT} {j : Nat} {refs : List Nat} {W : WX} {X : Cx}
theorem Good.blk (g : Good nm ca call j X) (s : Shared) (H : Hp) (scope : Scope) (cenv : PySem.Env) (fp : List Addr) : Good nm ca call j (X.blk s H scope cenv fp) := ⟨g.calm, g.nd, g.room, g.calls, g.free⟩
theorem mSrc_plain {N : List Str} {sc : Scope} {src : Src} {y : Expr} (h : mSrc nm N sc src y = true) : plainX y = true := by
  unfold mSrc at h
  split at h
  · exact mE_plain h
  · split at h
    · rfl
    · cases h
  · split at h
    · rfl
    · cases h
  · cases h
theorem sSrc {n : Nat} (g : Good nm ca call j X) (tk : Takes X W) (hR : ∀ r ∈ G.R, r.1 ∈ refs) (ih : IH nm ca call j n) {src : Src} (hn : sizeOf src ≤ n) {y tg : Expr} (h : mSrc nm X.N X.env.scope src y = true) : PI X tg y (tSrc X.K ca G call refs W src) := by
  unfold mSrc at h
  split at h
  · exact sSrc_ex (ih _ (by simp at hn; omega) X G refs W g tk hR _ h).1
  · split at h
    · exact sSrc_own (pe_name h)
    · cases h
  · split at h
    · obtain ⟨h, h4⟩ := and2 h
      obtain ⟨h, h3⟩ := and2 h
      obtain ⟨h1, h2⟩ := and2 h
      obtain rfl := List.isEmpty_iff.mp h2
      obtain ⟨p, rfl, hg, hok⟩ := isNameB_ok h1
      exact sSrc_rng g hg h3 h4 fun a y m hz => (ih a (by simp at hn; omega) X G refs W g tk hR y m).1
    · cases h
  · cases h
/-- a clause's test -/
def tCond (K : PySem.W.Frag) (ca : Ex → Addr) (G : Gh) (call : CallT) (refs : List Nat) (W : WX) (cond : Eo) : TT := fun σ H Q => ∃ e S P, Rel K G P e σ S H ∧ Pst K ca G P W σ S (evC call refs cond e) fun b e' S' H' => Q b H'
/-- a comprehension, in its parts -/
structure CompP (nm : Nat → Str) (ca : Ex → Addr) (G : Gh) (call : CallT) (refs : List Nat) (W : WX) (X : Cx) (elt : E) (tp : Bool) (ts : List Nat) (src : Src) (cond : Eo) (y tg iter : Expr) (ifs : List Expr) (scope : Scope) (own : List (Str × Nat)) : Prop where
  pi : PI X tg iter (tSrc X.K ca G call refs W src)
  ok : BlkOk X.N X.env.scope scope own
  hg : ∀ (s : Shared) (H : Hp) (C : Addr) (cl : List (Str × Addr)) (fp : List Addr), PG (X.blk s H scope (compEnvC scope cl C X.env) fp) tg (gT X.K tp ts)
  ht : ∀ (s : Shared) (H : Hp) (C : Addr) (cl : List (Str × Addr)) (fp : List Addr), PTs (X.blk s H scope (compEnvC scope cl C X.env) fp) ifs (tCond X.K ca G call refs (fun _ _ _ _ => False) cond)
  he : ∀ (s : Shared) (H : Hp) (C : Addr) (cl : List (Str × Addr)) (fp : List Addr), PE (X.blk s H scope (compEnvC scope cl C X.env) fp) y (tE X.K ca G call refs (fun _ _ _ _ => False) elt)
  hs : ∀ x, foldedSetIterable iter X.env x = pure x
  rd : ∀ σ H Q, tE X.K ca G call refs W (.comp elt tp ts src cond) σ H Q → tLc (tSrc X.K ca G call refs W src) (gT X.K tp ts) (tCond X.K ca G call refs (fun _ _ _ _ => False) cond) (tE X.K ca G call refs (fun _ _ _ _ => False) elt) (own.map (·.2)) σ H Q
theorem comp_parts {n : Nat} {elt : E} {tp : Bool} {ts : List Nat} {src : Src} {cond : Eo} {x : Expr} (g : Good nm ca call j X) (tk : Takes X W) (hR : ∀ r ∈ G.R, r.1 ∈ refs) (ih : IH nm ca call j n) (hn : sizeOf (E.comp elt tp ts src cond) ≤ n) (h : mE nm X.N X.env.scope (.comp elt tp ts src cond) x = true) :
    ∃ y tg iter ifs scope own pos, x = .ListComp y [⟨tg, iter, ifs, 0⟩] scope pos ∧ CompP nm ca G call refs W X elt tp ts src cond y tg iter ifs scope own := by
  unfold mE at h
  split at h
  · split at h
    · rename_i scope pos _ tg iter ifs asy
      obtain ⟨h, h7⟩ := and2 h
      obtain ⟨h, h6⟩ := and2 h
      obtain ⟨h, h5⟩ := and2 h
      obtain ⟨h, h4⟩ := and2 h
      obtain ⟨h, h3⟩ := and2 h
      obtain ⟨h1, h2⟩ := and2 h
      obtain rfl := of_decide_eq_true h1
      have hts := own_ts (of_decide_eq_true h3)
      have pi := sSrc (tg := tg) (G := G) (refs := refs) g tk hR ih (src := src) (by simp at hn; omega) h5
      generalize hown : (ts.filterMap fun i => (X.N[i]?).map fun x => (x, i)) = own at h2 h3 hts
      have blk := fun (s : Shared) (H : Hp) (C : Addr) (cl : List (Str × Addr)) (fp : List Addr) => g.blk s H scope (compEnvC scope cl C X.env) fp
      have hg : ∀ (s : Shared) (H : Hp) (C : Addr) (cl : List (Str × Addr)) (fp : List Addr), PG (X.blk s H scope (compEnvC scope cl C X.env) fp) tg (gT X.K tp ts) := fun s H C cl fp => tgtB_pg (X := X.blk s H scope (compEnvC scope cl C X.env) fp) g.calm g.nd (fun _ z => z) h4
      have he : ∀ (s : Shared) (H : Hp) (C : Addr) (cl : List (Str × Addr)) (fp : List Addr), PE (X.blk s H scope (compEnvC scope cl C X.env) fp) _ (tE X.K ca G call refs (fun _ _ _ _ => False) elt) := fun s H C cl fp => (ih elt (by simp at hn; omega) _ G refs _ (blk s H C cl fp) takes0 hR _ h6).1
      have ht : ∀ (s : Shared) (H : Hp) (C : Addr) (cl : List (Str × Addr)) (fp : List Addr), PTs (X.blk s H scope (compEnvC scope cl C X.env) fp) ifs (tCond X.K ca G call refs (fun _ _ _ _ => False) cond) := fun s H C cl fp => by
        cases cond with
        | none =>
          cases ifs with
          | nil => exact ⟨fun pins s σ H Q I ⟨e, S, P, R, q⟩ => pts_nil.run pins s σ H Q I (q S H (.refl S) R)⟩
          | cons _ _ => cases h7
        | some c => cases ifs with
          | nil => cases h7
          | cons z zs => cases zs with
            | cons _ _ => cases h7
            | nil =>
              obtain ⟨h8, h9⟩ := and2 h7
              have := (ih c (by simp at hn; omega) _ G refs _ (blk s H C cl fp) takes0 hR _ h8).2 h9
              exact ⟨fun pins s σ H Q I ⟨e, S, P, R, q⟩ => (pts_one this).run pins s σ H Q I ⟨e, S, P, R, q⟩⟩
      refine ⟨_, tg, iter, ifs, scope, own, pos, rfl, pi, blkOk_by h2, hg, ht, he, plain_fold (mSrc_plain h5) X.env, fun σ H Q ⟨e, S, P, R, q⟩ => ?_⟩
      rw [hts]
      refine ⟨e, S, P, R, ?_⟩
      simp only [evE] at q
      exact (Pst.bind q).imp fun w e1 S1 H1 hs1 R1 q1 J wk Dd hD => by
        split at q1
        case isFalse => exact q1.elim
        rename_i hk
        obtain ⟨hk, hfu⟩ := hk
        split at q1
        case h_2 => exact q1.elim
        rename_i l e2 hL
        have notin : ∀ i ∈ w.ix ++ refs, i ∉ ts := fun i hi z => by
          have := (and2 (List.all_eq_true.mp hk i z)).1
          simp at this
          rcases List.mem_append.mp hi with hi | hi
          · exact this.1 hi
          · exact this.2 hi
        have hrt : ∀ r ∈ G.R, r.1 ∉ ts := fun r hr => notin _ (List.mem_append_right _ (hR r hr))
        have hix : ∀ i ∈ w.ix, i ∉ ts := fun i hi => notin _ (List.mem_append_left _ hi)
        refine ⟨fun i m H => ∃ e S acc ds l2, m + i = w.fuel ∧ Sub S1 S ∧ Rel X.K G ((Dd, .lst acc) :: P) (clr ts e) (L2.wipe σ ts) S H ∧ RepL X.K S acc ds ∧ acc.length ≤ i ∧ compL (fun e => evE call refs elt e) (fun e => evC call refs cond e) (fun d e => stoT refs tp ts d (clr ts e)) w m i e = .ok l2 e2 ∧ l = ds ++ l2, ⟨w.fuel, e1, S1, [], [], l, rfl, .refl S1, ?_, .nil, Nat.le_refl _, hL, rfl⟩, ?_⟩
        · obtain ⟨R2, F⟩ := (R1.wipe hrt).fresh (d := .lst []) (u := .lst []) hD ⟨[], upd_same, .nil⟩
          exact R2.push F upd_same
        · rintro i m H2 ⟨e, S2, acc, ds, l2, hm, hs2, Rr, ra, hlen, hc, hl⟩
          have fin : w.look e i = some none → l2 = [] → e2 = e → J.stop i H2 ∧ Q (.ref Dd) H2 := fun hlk h1 h2 => by
            subst h1 h2
            rw [List.append_nil] at hl
            subst hl
            have sv := wk.look (n := i) (o := none) hs2 Rr (fun k hk' => wipe_out (hix k hk')) (by rw [look_clr hix]; exact hlk)
            obtain ⟨Rb, _⟩ := R1.back hs2 hk Rr
            have F := Rel.pop (S0 := S2) (d := .lst l) Rb ⟨acc, by simp, ra⟩ (.refl S2)
            exact ⟨sv, q1 S2 H2 hs2 Rb.tail (.ref Dd) ⟨Dd, rfl, F⟩⟩
          cases m with
          | zero =>
            obtain ⟨z1, z2, z3⟩ := compL_ok0 hc
            exact .inl (fin z1 z2 z3)
          | succ k =>
            rcases compL_ok hc with ⟨z1, z2, z3⟩ | ⟨d, e3, b, e4, z1, z2, z3, z4⟩
            · exact .inl (fin z1 z2 z3)
            · have sv := wk.look (n := i) (o := some d) hs2 Rr (fun k hk' => wipe_out (hix k hk')) (by rw [look_clr hix]; exact z1)
              refine .inr ⟨sv.1, _, fun H' hN => ⟨k, Nat.lt_succ_self k, hN⟩, fun x H' y => ?_⟩
              obtain ⟨rfl, rx⟩ := sv.2 x H' y
              refine stoT_run hR Rr rx z2 fun σ2 R2 hl2 hfr => ?_
              have hw : L2.wipe σ2 ts = L2.wipe σ ts := (wipe_eq hl2 hfr).trans wipe_idem
              refine ⟨hw, e3, S2, _, R2, ?_⟩
              rw [z3]
              intro S3 H3 hs3 R3
              have R3' : Rel X.K G ((Dd, .lst acc) :: P) (clr ts e4) (L2.wipe σ ts) S3 H3 := hw ▸ R3.wipe hrt
              rcases z4 with ⟨rfl, z4⟩ | ⟨rfl, p, e5, l3, z5, z6, rfl⟩
              · show ∃ e S acc ds l2, _
                exact ⟨e4, S3, acc, ds, l2, by omega, hs2.trans hs3, R3', ra.mono hs3, by omega, z4, hl⟩
              · show tE X.K ca G call refs (fun _ _ _ _ => False) elt σ2 H3 _
                refine ⟨e4, S3, _, R3, ?_⟩
                rw [z5]
                intro S4 H4 hs4 R4 v rv
                obtain ⟨S5, hs5, R5, r5⟩ := R4.rep rv
                refine ⟨acc, (R5.pen _ List.mem_cons_self).1, by rw [line_eq]; omega, e5, S5, acc ++ [v], ds ++ [p.2], l3, by omega, hs2.trans (hs3.trans (hs4.trans hs5)), ?_, (ra.mono (hs3.trans (hs4.trans hs5))).append (.cons r5 .nil), by rw [List.length_append]; exact Nat.succ_le_succ hlen, z6, by rw [hl, List.append_assoc]; rfl⟩
                exact hw ▸ (R5.putP (u' := .lst (acc ++ [v])) trivial).wipe hrt
    · cases h
  · cases h
theorem s_comp {n : Nat} {elt : E} {tp : Bool} {ts : List Nat} {src : Src} {cond : Eo} {x : Expr} (g : Good nm ca call j X) (tk : Takes X W) (hR : ∀ r ∈ G.R, r.1 ∈ refs) (ih : IH nm ca call j n) (hn : sizeOf (E.comp elt tp ts src cond) ≤ n) (h : mE nm X.N X.env.scope (.comp elt tp ts src cond) x = true) :
    PE X x (tE X.K ca G call refs W (.comp elt tp ts src cond)) := by
  obtain ⟨y, tg, iter, ifs, scope, own, pos, rfl, c⟩ := comp_parts g tk hR ih hn h
  exact PE.weak (pe_lc (own := own) g.calm g.nd c.pi c.ok c.hg c.ht c.he c.hs) c.rd
end
end Vm

namespace Vm
open PySem PySem.Spec PyProof.Rows L2
section
variable {nm : Nat → Str} {ca : Ex → Addr} {G : Gh} {call : CallT} {j : Nat} {refs : List Nat} {W : WX} {X : Cx}
theorem isTrue_call {f : Expr} {args : List Expr} {kw : List Keyword} {pos : Pos} {env : PySem.Env} (whole : Sem Value) : isTrue (.Call f args kw pos) env whole = (do let v ← whole; standAt (Expr.Call f args kw pos).pos; holding [v] (truthy v)) := rfl
theorem isTrue_sub {a b : Expr} {pos : Pos} {env : PySem.Env} (whole : Sem Value) : isTrue (.Subscript a b pos) env whole = (do let v ← whole; standAt (Expr.Subscript a b pos).pos; holding [v] (truthy v)) := rfl
theorem isTrue_name {a : Str} {pos : Pos} {env : PySem.Env} (whole : Sem Value) : isTrue (.Name a pos) env whole = (do let v ← whole; standAt (Expr.Name a pos).pos; holding [v] (truthy v)) := rfl
theorem pt_call {a : E} {x : Expr} (hv : isVar a = none) (hx : ∃ f args kw pos, x = .Call f args kw pos) (h : PE X x (tE X.K ca G call refs W a)) : PT X x (tT X.K ca G call refs W a) := by
  obtain ⟨f, args, kw, pos, rfl⟩ := hx
  exact pt_of hv h fun w => isTrue_call w
theorem main_E : ∀ n, IH nm ca call j n := by
  intro n
  induction n with
  | zero => intro a ha; exact absurd ha (Nat.not_lt_zero _)
  | succ n ih =>
    intro a ha X G refs W g tk hR x h
    have ihE : ∀ b, sizeOf b < n → ∀ y, mE nm X.N X.env.scope b y = true → PE X y (tE X.K ca G call refs W b) := fun b hb y m => (ih b hb X G refs W g tk hR y m).1
    have ihB : ∀ b, sizeOf b < n → ∀ y, mE nm X.N X.env.scope b y = true → PE X y (tE X.K ca G call refs W b) ∧ (tstB b = true → PT X y (tT X.K ca G call refs W b)) := fun b hb y m => ih b hb X G refs W g tk hR y m
    have isCall : ∀ {a : E}, (∀ p q r s, x = .Call p q r s → True) → True := fun _ => trivial
    cases a with
    | con c => exact ⟨s_con h, fun t => by cases t⟩
    | var i =>
      refine ⟨s_var h, fun _ => ?_⟩
      unfold mE at h
      split at h
      · refine PT.weak (pt_val (pe_name h) isTrue_name) fun σ H Q ⟨e, S, P, R, q⟩ => ?_
        simp only [evT, isVar, opnd] at q
        cases hp : pk e i with
        | none => rw [hp] at q; exact q.elim
        | some d =>
          simp only [hp, Res.bind, op1, got] at q
          obtain ⟨v, h1, s1⟩ := R.pick hp
          obtain ⟨b, rfl, q2⟩ := asB_some q
          exact ⟨v, h1, b, see_bl s1, q2 S H (.refl S) R⟩
      · cases h
    | glb y c => unfold mE at h; cases h
    | tup es => exact ⟨s_tup h fun l m => sEs m fun b y m hz => ihE b (by simp at ha; omega) y m, fun t => by cases t⟩
    | lst es => exact ⟨s_lst h fun l m => sEs m fun b y m hz => ihE b (by simp at ha; omega) y m, fun t => by cases t⟩
    | bin o a b => exact ⟨s_bin h (ihE a (by simp at ha; omega)) (ihE b (by simp at ha; omega)), fun t => by cases t⟩
    | neg a => exact ⟨s_neg h (ihE a (by simp at ha; omega)), fun t => by cases t⟩
    | cmp o a b =>
      have := s_cmp g h (ihE a (by simp at ha; omega)) (ihE b (by simp at ha; omega))
      exact ⟨this.1, fun _ => this.2⟩
    | chn o p a b c =>
      have := s_chn g h (ihE a (by simp at ha; omega)) (ihE b (by simp at ha; omega)) (ihE c (by simp at ha; omega))
      exact ⟨this.1, fun _ => this.2⟩
    | bop k es => exact s_bop h fun b y m hz => ihB b (by simp at ha; omega) y m
    | not a => exact s_not h (ihB a (by simp at ha; omega))
    | ite c a b => exact ⟨s_ite h (fun y m t => (ihB c (by simp at ha; omega) y m).2 t) (ihE a (by simp at ha; omega)) (ihE b (by simp at ha; omega)), fun t => by cases t⟩
    | idx a i =>
      have p := s_idx g h (ihE a (by simp at ha; omega)) (ihE i (by simp at ha; omega))
      refine ⟨p, fun _ => ?_⟩
      unfold mE at h
      split at h
      · exact pt_of rfl p fun w => isTrue_sub w
      · cases h
    | slc a lo hi => exact ⟨s_slc h fun b y m hz => ihE b (by simp at ha hz; omega) y m, fun t => by cases t⟩
    | stp a k => unfold mE at h; cases h
    | call f as =>
      have p := s_call g tk h fun b y m hz => ihE b (by simp at ha; omega) y m
      refine ⟨p, fun _ => ?_⟩
      unfold mE at h
      split at h
      · exact pt_of rfl p fun w => isTrue_call w
      · cases h
    | bi b es =>
      have p := s_bi g h fun b y m hz => ihE b (by simp at ha; omega) y m
      refine ⟨p, fun _ => ?_⟩
      unfold mE at h
      split at h
      · exact pt_of rfl p fun w => isTrue_call w
      · cases h
    | bid b a d => exact ⟨s_bid g h (ihE a (by simp at ha; omega)) (ihE d (by simp at ha; omega)), fun t => by cases t⟩
    | lset a => exact ⟨s_lset g h (ihE a (by simp at ha; omega)), fun t => by cases t⟩
    | lrng t es => exact ⟨s_lrng g h fun b y m hz => ihE b (by simp at ha; omega) y m, fun t => by cases t⟩
    | mth m r es =>
      have p := s_mth g h fun b y m hz => ihE b (by simp at ha hz; omega) y m
      refine ⟨p, fun _ => ?_⟩
      unfold mE at h
      split at h
      · exact pt_of rfl p fun w => isTrue_call w
      · cases h
    | isi a t =>
      have p := s_isi g h (ihE a (by simp at ha; omega))
      refine ⟨p, fun _ => ?_⟩
      unfold mE at h
      split at h
      · exact pt_of rfl p fun w => isTrue_call w
      · cases h
    | newd t => exact ⟨s_newd h, fun t => by cases t⟩
    | comp elt tp ts src cond => exact ⟨s_comp g tk hR ih (by omega) h, fun t => by cases t⟩
end
end Vm

/-! VmV: statements: their texts, what they tell. -/
namespace Vm
open PySem PySem.Spec PyProof.Rows L2
section
variable (nm : Nat → Str) (N : List Str) (exR exC : List Ex)
def yesB : Str → Bool := fun _ => true
/-- a comprehension that is stored to a name -/
def lcB (sc : Scope) (y : Str) (py : Pos) : Expr → Bool
  | .ListComp _ _ scope pos => decide (sc.names.lookup y = some .local) && (py.line == pos.line) && !(scope.names.any fun (n, k) => n == y && (k == .local || k == .cell))
  | _ => true
def noLc : Expr → Bool
  | .ListComp _ _ _ _ => false
  | _ => true
/-- what is unpacked: no display, no comprehension -/
def unpV : Expr → Bool
  | .Name _ _ => true | .Call _ _ _ _ => true | .Subscript _ _ _ => true
  | _ => false
def parB (sc : Scope) (x y : Str) (px py : Pos) (a b : Expr) : Bool :=
  decide (sc.names.lookup x = some .local) && decide (sc.names.lookup y = some .local) && decide (x ≠ y) && (py.line == px.line) && !([a, b].all (foldedForSure 8)) && !([a, b].all (constantsAlone 8))
def isiB (sc : Scope) (n : Str) (c : Option Ex) : Expr → Bool
  | .Call g args kw _ => isNameB "isinstance" sc g && kw.isEmpty && (match args with
    | [a, b] => (match a with | .Name z _ => decide (z = n) | _ => false) && (match c with
      | some y => isNameB y.name sc b && decide (y ∈ exC)
      | none => isNameB "ValueError" sc b)
    | _ => false)
  | _ => false
def isisB (sc : Scope) (n : Str) : List (Option Ex) → List Expr → Bool
  | [], x => x.isEmpty
  | c :: cs, x => (match x with | y :: ys => isiB exC sc n c y && isisB sc n cs ys | _ => false)
def hndB (sc : Scope) (n : Str) (i : Nat) : List (Nat × Bool × List (Option Ex)) → List Stmt → Bool
  | [], x => x.isEmpty
  | (j, ap, cs) :: r, x => (match x with
    | y :: ys => (match y with
      | .Assign ts v _ => (match ts with
        | [t] => stoB N yesB sc j t && decide (j ≠ i) && (if ap = true then (match v with
            | .BinOp l op w _ => decide (op = .Add) && (match l with | .Name z _ => varB N sc j z | _ => false) && (match w with | .List es _ => isisB exC sc n cs es | _ => false)
            | _ => false)
          else (match v with | .List es _ => isisB exC sc n cs es | _ => false))
        | _ => false)
      | _ => false) && hndB sc n i r ys
    | _ => false)
mutual
def mS (sc : Scope) : S → Stmt → Bool
  | .asg i a, x => (match x with
    | .Assign ts v _ => (match ts with
      | [t] => stoB N yesB sc i t && mE nm N sc a v && (match t with | .Name y py => lcB sc y py v | _ => false)
      | _ => false)
    | _ => false)
  | .unp is a, x => (match x with
    | .Assign ts v _ => (match ts with
      | [t] => tgtB N yesB sc true is t && mE nm N sc a v && unpV v
      | _ => false)
    | _ => false)
  | .par i j a b, x => (match x with
    | .Assign ts v _ => (match ts, v with
      | [.Tuple [.Name x px, .Name y py] _ _], .Tuple [va, vb] _ _ => decide (N[i]? = some x) && decide (N[j]? = some y) && parB sc x y px py va vb && mE nm N sc a va && mE nm N sc b vb
      | _, _ => false)
    | _ => false)
  | .seti i k a, x => (match x with
    | .Assign ts v _ => (match ts with
      | [.Subscript (.Name z _) kx _] => varB N sc i z && mE nm N sc k kx && mE nm N sc a v && noLc v
      | _ => false)
    | _ => false)
  | .app i a, x => (match x with
    | .Expr (.Call (.Attribute (.Name z _) name apos) args kw pos) _ => varB N sc i z && decide (name = "append") && (apos.endLine == pos.line) && kw.isEmpty && (match args with | [y] => mE nm N sc a y | _ => false)
    | _ => false)
  | .ins i k a, x => (match x with
    | .Expr (.Call (.Attribute (.Name z _) name apos) args kw pos) _ => varB N sc i z && decide (name = "insert") && (apos.endLine == pos.line) && kw.isEmpty && (match args with | [w, y] => mE nm N sc k w && mE nm N sc a y | _ => false)
    | _ => false)
  | .pop i, x => (match x with
    | .Expr (.Call (.Attribute (.Name z _) name apos) args kw pos) _ => varB N sc i z && decide (name = "pop") && (apos.endLine == pos.line) && kw.isEmpty && args.isEmpty
    | _ => false)
  | .xpr a, x => (match x with | .Expr v _ => mE nm N sc a v && noLc v | _ => false)
  | .ret a, x => (match x with | .Return (some v) _ => mE nm N sc a v | _ => false)
  | .ret0, x => (match x with | .Return none _ => true | _ => false)
  | .ifs c a b, x => (match x with | .If t p q _ => mE nm N sc c t && tstB c && mSs sc a p && mSs sc b q | _ => false)
  | .loop tp ts src b, x => (match x with | .For tg iter body orelse _ => orelse.isEmpty && tgtB N yesB sc tp ts tg && mSrc nm N sc src iter && mSs sc b body | _ => false)
  | .whl _ c b, x => (match x with | .While t body orelse _ => orelse.isEmpty && mE nm N sc c t && tstB c && mSs sc b body | _ => false)
  | .rse e, x => (match x with | .Raise (some (.Call g args kw _)) none _ => isNameB e.name sc g && args.isEmpty && kw.isEmpty && decide (e ∈ exR) | _ => false)
  | .tryk i xs b h, x => (match x with
    | .Try body hs orelse fin _ => orelse.isEmpty && fin.isEmpty && mSs sc b body && (match hs with
      | [.ExceptHandler (some (.Name r _)) (some n) (b0 :: su) _] => decide (r = "RoofError") && glB sc r && decide (N[i]? = some n) && decide (sc.names.lookup n = some .local) && okNm n && hndB N exC sc n i h (b0 :: su) && !exR.isEmpty && (xs.all fun x => decide (x ∈ exR))
      | _ => false)
    | _ => false)
  | _, _ => false
def mSs (sc : Scope) : Ss → List Stmt → Bool
  | .nil, x => x.isEmpty
  | .cons a r, x => (match x with | y :: ys => mS sc a y && mSs sc r ys | _ => false)
end
end
section
variable (K : PySem.W.Frag) (ca : Ex → Addr) (G : Gh)
def PstS (W : WX) (D : Ends) (S : Hp) : SR → Prop
  | .next e => ∀ σ' S' H', Sub S S' → Rel K G [] e σ' S' H' → D.nx σ' H'
  | .ret fr d e => ∀ v σ' S' H', Sub S S' → Rel K G [] e σ' S' H' → RV K G [] e σ' S' H' (fr, d) v → D.rt v H'
  | .exc x e => ∀ σ' S' H', Sub S S' → Rel K G [] e σ' S' H' → W (.ref (ca x)) none σ' H'
  | .bad => False
def tS (call : CallT) (refs : List Nat) (W : WX) (s : S) : TS := fun D σ H => ∃ e S, Rel K G [] e σ S H ∧ PstS K ca G W D S (evS call s refs e)
def tSs (call : CallT) (refs : List Nat) (W : WX) (s : Ss) : TS := fun D σ H => ∃ e S, Rel K G [] e σ S H ∧ PstS K ca G W D S (evSs call s refs e)
end
/-- what is so of an exception's class -/
structure ExOk (K : PySem.W.Frag) (mg : Str → Option Value) (ca : Ex → Addr) (ro : Addr) (exC : List Ex) (x : Ex) : Prop where
  mg : mg x.name = some (.ref (ca x))
  keep : PySem.W.keepIn K (.ref (ca x)) = true
  exc : PySem.W.excIn K (ca x) [.type "ValueError", .type "Exception", .type "BaseException", .type "object"] "ValueError.__new__" = true
  sub : PySem.W.subIn K (.ref (ca x)) (.type "BaseException") = some true
  typ : PySem.W.typeIn K (.ref (ca x)) = some (.type "type")
  root : PySem.W.exmOne K (.ref (ca x)) (.ref ro) = some true
  isE : ExcC K (ca x)
  kit : ∀ y ∈ exC, PySem.W.kitOne K (.ref (ca x)) (.ref (ca y)) = some (decide (x = y))
  kitV : PySem.W.kitOne K (.ref (ca x)) (.type "ValueError") = some true
structure GoodS (nm : Nat → Str) (ca : Ex → Addr) (call : CallT) (j : Nat) (exR exC : List Ex) (ro : Addr) (X : Cx) : Prop extends Good nm ca call j X where
  hp : PassesOwn (model X.prog X.w) X.A X.env X.xe
  hs : X.stack = X.env :: X.outer
  hf : X.env.frame = some X.env.locals
  fn : ∀ x, X.fn x = true
  kind : X.env.scope.kind = .function
  ex : ∀ x ∈ exR, ExOk X.K X.mg ca ro exC x
  exc : ∀ x ∈ exC, X.mg x.name = some (.ref (ca x))
  ro : exR ≠ [] → X.mg "RoofError" = some (.ref ro)
section
variable {K : PySem.W.Frag} {ca : Ex → Addr} {G : Gh} {W : WX} {D : Ends} {S S1 : Hp} {σ : L2.St}
theorem PstS.mono {r : SR} (hs : Sub S S1) (h : PstS K ca G W D S r) : PstS K ca G W D S1 r := by
  cases r with
  | next e => exact fun σ' S' H' q R => h σ' S' H' (hs.trans q) R
  | ret fr d e => exact fun v σ' S' H' q R => h v σ' S' H' (hs.trans q) R
  | exc x e => exact fun σ' S' H' q R => h σ' S' H' (hs.trans q) R
  | bad => exact h
theorem PstS.to {α : Type} {r : Res α} {f : α → Env → SR} (h : PstS K ca G W D S (r.to f)) : Pst K ca G [] W σ S r fun a e S' H' => PstS K ca G W D S' (f a e) := by
  cases r with
  | ok a e => exact fun S' H' q R => PstS.mono q h
  | exc x e => exact fun S' H' q R => h σ S' H' q R
  | bad => exact h
theorem PstS.then {r : SR} {f : Env → SR} (h : PstS K ca G W D S (r.then f)) : PstS K ca G W { D with nx := fun σ' H' => ∃ e S', Rel K G [] e σ' S' H' ∧ PstS K ca G W D S' (f e) } S r := by
  cases r with
  | next e => exact fun σ' S' H' q R => ⟨e, S', R, PstS.mono q h⟩
  | ret fr d e => exact h
  | exc x e => exact h
  | bad => exact h
end
section
variable {K : PySem.W.Frag} {G : Gh} {P : List (Addr × HO)} {σ : L2.St} {S H : Hp} {e : Env}
/-- a change of one's own list -/
theorem Rel.write (R : Rel K G P e σ S H) {i : Nat} {l : Addr} {d d' : D} {u' : HO} (hi : IsOwn e i d) (hat : At σ i l) (ho : OwnAt K S (upd H l u') l d') : Rel K G P (e.set i (.own d')) σ S (upd H l u') := by
  have old : ∀ {k d1}, IsOwn (e.set i (.own d')) k d1 → (k = i ∧ d1 = d') ∨ (k ≠ i ∧ IsOwn e k d1) := fun {k d1} q => by
    by_cases z : k = i
    · subst z
      rcases q with q | q
      · rw [List.getElem?_set_self hi.lt] at q; cases q; exact .inl ⟨rfl, rfl⟩
      · rw [List.getElem?_set_self hi.lt] at q; cases q
    · refine .inr ⟨z, ?_⟩
      rcases q with q | q
      · rw [List.getElem?_set_ne (Ne.symm z)] at q; exact .inl q
      · rw [List.getElem?_set_ne (Ne.symm z)] at q; exact .inr q
  obtain ⟨l0, a0, o0, g0⟩ := R.own i d hi
  have := at_inj hat a0
  subst this
  exact {
    sub := R.sub.updR o0.1
    fr := fun b o hb hB => by
      have : b ≠ l := fun z => by
        subst z
        rcases g0 with g0 | g0
        · rw [g0] at hb; cases hb
        · exact hB g0
      rw [upd_ne this]; exact R.fr b o hb hB
    s0 := R.s0, new := R.new
    len := by rw [List.length_set]; exact R.len
    val := fun k d1 q => by
      by_cases z : k = i
      · subst z
        rw [List.getElem?_set_self hi.lt] at q; cases q
      · rw [List.getElem?_set_ne (Ne.symm z)] at q
        exact R.val k d1 q
    own := fun k d1 q => by
      rcases old q with ⟨rfl, rfl⟩ | ⟨z, q⟩
      · exact ⟨l, hat, ⟨o0.1, ho⟩, g0⟩
      · obtain ⟨l', a, o, g⟩ := R.own k d1 q
        have : l' ≠ l := fun w => z (R.sep k i d1 d l' q hi a (w ▸ hat))
        exact ⟨l', a, ⟨o.1, o.2.mono (.refl S) (upd_ne this)⟩, g⟩
    sep := fun a b d1 d2 l' q1 q2 h1 h2 => by
      have p1 : ∃ d0, IsOwn e a d0 := by
        rcases old q1 with ⟨rfl, rfl⟩ | ⟨_, o1⟩
        · exact ⟨d, hi⟩
        · exact ⟨_, o1⟩
      have p2 : ∃ d0, IsOwn e b d0 := by
        rcases old q2 with ⟨rfl, rfl⟩ | ⟨_, o1⟩
        · exact ⟨d, hi⟩
        · exact ⟨_, o1⟩
      obtain ⟨x, p1⟩ := p1
      obtain ⟨y, p2⟩ := p2
      exact R.sep a b x y l' p1 p2 h1 h2
    pen := fun q hq => by
      obtain ⟨a, b, c, x⟩ := R.pen q hq
      have : q.1 ≠ l := fun z => c i d hi (z ▸ hat)
      refine ⟨by rw [upd_ne this]; exact a, b, fun k d1 z w => ?_, x⟩
      rcases old z with ⟨rfl, rfl⟩ | ⟨_, q1⟩
      · exact c k d hi w
      · exact c k d1 q1 w
    pnd := R.pnd, refs := R.refs }
theorem Rel.stoAny (R : Rel K G P e σ S H) {i : Nat} {x : Option V} (hr : ∀ r ∈ G.R, r.1 ≠ i) : Rel K G P (e.set i .emp) (σ.set i x) S H := by
  have get : ∀ {k s}, (e.set i .emp)[k]? = some s → s ≠ .emp → k ≠ i ∧ e[k]? = some s := fun {k s} q hs => by
    by_cases z : k = i
    · subst z
      have hlt := (List.getElem?_eq_some_iff.mp q).1
      rw [List.length_set] at hlt
      rw [List.getElem?_set_self hlt] at q; cases q; exact absurd rfl hs
    · rw [List.getElem?_set_ne (Ne.symm z)] at q; exact ⟨z, q⟩
  have old : ∀ {k d}, IsOwn (e.set i .emp) k d → k ≠ i ∧ IsOwn e k d := fun {k d} q => by
    rcases q with q | q
    · obtain ⟨z, q⟩ := get q (fun w => nomatch w); exact ⟨z, .inl q⟩
    · obtain ⟨z, q⟩ := get q (fun w => nomatch w); exact ⟨z, .inr q⟩
  have at' : ∀ {k l}, k ≠ i → At (σ.set i x) k l → At σ k l := fun {k l} z q => by
    have q : (σ.set i x)[k]? = some (some (.ref l)) := q
    rw [List.getElem?_set_ne (Ne.symm z)] at q; exact q
  exact {
    sub := R.sub, fr := R.fr, s0 := R.s0, new := R.new
    len := by rw [List.length_set, List.length_set]; exact R.len
    val := fun k d q => by
      obtain ⟨z, q⟩ := get q (fun w => nomatch w)
      rw [List.getElem?_set_ne (Ne.symm z)]
      exact R.val k d q
    own := fun k d q => by
      obtain ⟨z, q⟩ := old q
      obtain ⟨l, a, o, g⟩ := R.own k d q
      exact ⟨l, by show (σ.set i x)[k]? = _; rw [List.getElem?_set_ne (Ne.symm z)]; exact a, o, g⟩
    sep := fun a b d1 d2 l q1 q2 h1 h2 => R.sep a b d1 d2 l (old q1).2 (old q2).2 (at' (old q1).1 h1) (at' (old q2).1 h2)
    pen := fun q hq => let ⟨a, b, c, y⟩ := R.pen q hq; ⟨a, b, fun k d z w => c k d (old z).2 (at' (old z).1 w), y⟩
    pnd := R.pnd
    refs := fun r hr' => by
      show (σ.set i x)[r.1]? = _
      rw [List.getElem?_set_ne (Ne.symm (hr r hr'))]; exact R.refs r hr' }
/-- a name that is kept where it is -/
theorem Rel.addR (R : Rel K G P e σ S H) {i : Nat} {l : Addr} (h : At σ i l) : Rel K { G with R := (i, l) :: G.R } P e σ S H :=
  { sub := R.sub, fr := R.fr, s0 := R.s0, new := R.new, len := R.len, val := R.val, own := R.own, sep := R.sep, pen := R.pen, pnd := R.pnd
    refs := fun r hr => by
      rcases List.mem_cons.mp hr with rfl | hr
      · exact h
      · exact R.refs r hr }
theorem Rel.delR {i : Nat} {l : Addr} (R : Rel K { G with R := (i, l) :: G.R } P e σ S H) : Rel K G P e σ S H ∧ At σ i l :=
  ⟨{ sub := R.sub, fr := R.fr, s0 := R.s0, new := R.new, len := R.len, val := R.val, own := R.own, sep := R.sep, pen := R.pen, pnd := R.pnd
     refs := fun r hr => R.refs r (List.mem_cons_of_mem _ hr) }, R.refs _ List.mem_cons_self⟩
/-- a name's own list, taken out of the name -/
theorem Rel.take (R : Rel K G [] e σ S H) {i : Nat} {d : D} (hi : IsOwn e i d) : ∃ l, At σ i l ∧ Rel K G [] (e.set i .emp) σ S H ∧ Fre K G [] (e.set i .emp) σ S H l d := by
  obtain ⟨l, a, o, g⟩ := R.own i d hi
  have old : ∀ {k d1}, IsOwn (e.set i .emp) k d1 → k ≠ i ∧ IsOwn e k d1 := fun {k d1} q => by
    by_cases z : k = i
    · subst z
      rcases q with q | q <;> (rw [List.getElem?_set_self hi.lt] at q; cases q)
    · refine ⟨z, ?_⟩
      rcases q with q | q
      · rw [List.getElem?_set_ne (Ne.symm z)] at q; exact .inl q
      · rw [List.getElem?_set_ne (Ne.symm z)] at q; exact .inr q
  refine ⟨l, a, R.weak (List.length_set ..) (fun k s q => ?_), o, fun k d1 q w => (old q).1 (R.sep k i d1 d l (old q).2 hi w a), (fun q hq => nomatch hq), g⟩
  by_cases z : k = i
  · subst z
    rw [List.getElem?_set_self hi.lt] at q; cases q; exact .inl rfl
  · rw [List.getElem?_set_ne (Ne.symm z)] at q; exact .inr q
end
end Vm

namespace Vm
open PySem PySem.Spec PyProof.Rows L2
theorem PS.weak {X : Cx} {x : Stmt} {t t' : TS} (h : PS X x t) (k : ∀ D σ H, t' D σ H → t D σ H) : PS X x t' := ⟨fun pins s σ H D I q => h.run pins s σ H D I (k D σ H q)⟩
theorem PSs.weak {X : Cx} {x : List Stmt} {t t' : TS} (h : PSs X x t) (k : ∀ D σ H, t' D σ H → t D σ H) : PSs X x t' := ⟨fun pins s σ H D I q => h.run pins s σ H D I (k D σ H q)⟩
theorem PG.or {X : Cx} {x : Expr} {t t' : TG} (h : PG X x t) (h' : PG X x t') : PG X x (fun v σ H Q => t v σ H Q ∨ t' v σ H Q) := ⟨fun pins s σ H v u Q I r q => by
  rcases q with q | q
  · exact h.run pins s σ H v u Q I r q
  · exact h'.run pins s σ H v u Q I r q⟩
section
variable {nm : Nat → Str} {ca : Ex → Addr} {G : Gh} {call : CallT} {j : Nat} {refs : List Nat} {W : WX} {X : Cx} {exR exC : List Ex} {ro : Addr}
theorem exE (g : GoodS nm ca call j exR exC ro X) (tk : Takes X W) (hR : ∀ r ∈ G.R, r.1 ∈ refs) {a : E} {x : Expr} (h : mE nm X.N X.env.scope a x = true) : PE X x (tE X.K ca G call refs W a) ∧ (tstB a = true → PT X x (tT X.K ca G call refs W a)) :=
  main_E (sizeOf a + 1) a (Nat.lt_succ_self _) X G refs W g.toGood tk hR x h
theorem stoB_name {fn : Str → Bool} {N : List Str} {sc : Scope} {i : Nat} {t : Expr} (h : stoB N fn sc i t = true) : ∃ y py, t = .Name y py ∧ N[i]? = some y ∧ locB sc y = true := by
  unfold stoB at h
  split at h
  · obtain ⟨h, h4⟩ := and2 h
    obtain ⟨h, h3⟩ := and2 h
    obtain ⟨h1, h2⟩ := and2 h
    exact ⟨_, _, rfl, of_decide_eq_true h1, h2⟩
  · cases h
theorem nr {i : Nat} (hR : ∀ r ∈ G.R, r.1 ∈ refs) (h : i ∉ refs) : ∀ r ∈ G.R, r.1 ≠ i := fun r hr z => h (z ▸ hR r hr)
/-- what is told is stored -/
theorem sto_told {K : PySem.W.Frag} {Z : Ends} {e1 : Env} {σ : L2.St} {S1 H1 : Hp} {i : Nat} {p : Bool × D} {v : V} (hR : ∀ r ∈ G.R, r.1 ∈ refs) (R1 : Rel K G [] e1 σ S1 H1) (rv : RV K G [] e1 σ S1 H1 p v)
    (q : PstS K ca G W Z S1 ((Vm.sto refs i (slotOf p.1 p.2) e1).to fun _ e => .next e)) : Z.nx (σ.set i (some v)) H1 := by
  cases hs : Vm.sto refs i (slotOf p.1 p.2) e1 with
  | bad => rw [hs] at q; exact q.elim
  | exc x e => unfold Vm.sto at hs; split at hs <;> cases hs
  | ok u e2 =>
    rw [hs] at q
    obtain ⟨h1, h2, rfl⟩ := sto_ok hs
    obtain ⟨fr, d⟩ := p
    cases fr with
    | true =>
      obtain ⟨l, rfl, F⟩ := rv
      exact q _ S1 H1 (.refl S1) (R1.stoOwn F h2 (nr hR h1))
    | false => exact q _ S1 H1 (.refl S1) (R1.sto rv h2 (nr hR h1))
theorem w_asg {i : Nat} {a : E} {x : Stmt} (g : GoodS nm ca call j exR exC ro X) (tk : Takes X W) (hR : ∀ r ∈ G.R, r.1 ∈ refs) (h : mS nm X.N exR exC X.env.scope (.asg i a) x = true) : PS X x (tS X.K ca G call refs W (.asg i a)) := by
  unfold mS at h
  split at h
  · split at h
    · obtain ⟨h, h3⟩ := and2 h
      obtain ⟨h1, h2⟩ := and2 h
      obtain ⟨y, py, rfl, hN, hl⟩ := stoB_name h1
      have key : ∀ D σ H, tS X.K ca G call refs W (.asg i a) D σ H → tAsg (tE X.K ca G call refs W a) (gName i) D σ H := fun D σ H ⟨e, S, R, q⟩ => ⟨e, S, [], R, (PstS.to (σ := σ) q).imp fun p e1 S1 H1 hs1 R1 q1 v rv => sto_told hR R1 rv q1⟩
      rename_i v _ _ _
      by_cases hv : noLc v = true
      · refine PS.weak (ps_set g.nd hN (locB_ok hl) (exE g tk hR h2).1 (plain_sw (mE_plain h2) (fun a b c d z => by subst z; cases hv) _ _ _) (.inl (g.fn y))) key
      · cases v with
        | ListComp y0 gs scope0 pos0 =>
          cases a with
          | comp elt tp ts src cond =>
            obtain ⟨y1, tg, iter, ifs, scope, own, lpos, e0, c⟩ := comp_parts (refs := refs) (G := G) g.toGood tk hR (main_E _) (Nat.le_refl _) h2
            cases e0
            dsimp only at h3
            unfold lcB at h3
            obtain ⟨h3, h6⟩ := and2 h3
            obtain ⟨h4, h5⟩ := and2 h3
            have hyl := of_decide_eq_true h4
            refine PS.weak (ps_setLc g.calm g.nd hN hyl (sw_true g.kind hyl h5 (by simpa using h6)) c.pi c.ok c.hg c.ht c.he c.hs) fun D σ H hh => ?_
            exact c.rd _ _ _ (key D σ H hh)
          | _ => unfold mE at h2; cases h2
        | _ => exact absurd rfl hv
    · cases h
  · cases h
theorem w_xpr {a : E} {x : Stmt} (g : GoodS nm ca call j exR exC ro X) (tk : Takes X W) (hR : ∀ r ∈ G.R, r.1 ∈ refs) (h : mS nm X.N exR exC X.env.scope (.xpr a) x = true) : PS X x (tS X.K ca G call refs W (.xpr a)) := by
  unfold mS at h
  split at h
  · obtain ⟨h1, h2⟩ := and2 h
    refine PS.weak (ps_expr (exE g tk hR h1).1 (plain_sw (mE_plain h1) (fun a b c d z => by subst z; cases h2) _ _ _)) fun D σ H ⟨e, S, R, q⟩ => ⟨e, S, [], R, ?_⟩
    exact (PstS.to (σ := σ) q).imp fun p e1 S1 H1 hs1 R1 q1 v rv => q1 σ S1 H1 (.refl S1) R1
  · cases h
theorem w_ret {a : E} {x : Stmt} (g : GoodS nm ca call j exR exC ro X) (tk : Takes X W) (hR : ∀ r ∈ G.R, r.1 ∈ refs) (h : mS nm X.N exR exC X.env.scope (.ret a) x = true) : PS X x (tS X.K ca G call refs W (.ret a)) := by
  unfold mS at h
  split at h
  · cases hv : isVar a with
    | none =>
      refine PS.weak (ps_ret (exE g tk hR h).1) fun D σ H ⟨e, S, R, q⟩ => ⟨e, S, [], R, ?_⟩
      simp only [evS, hv] at q
      exact (PstS.to (σ := σ) q).imp fun p e1 S1 H1 hs1 R1 q1 v rv => q1 v σ S1 H1 (.refl S1) R1 rv
    | some i =>
      have ha : a = .var i := by cases a <;> first | (cases hv; rfl) | cases hv
      subst ha
      unfold mE at h
      split at h
      · refine PS.weak (ps_ret (pe_name h)) fun D σ H ⟨e, S, R, q⟩ => ?_
        simp only [evS, isVar] at q
        split at q
        · rename_i d hd
          obtain ⟨v, h1, r⟩ := R.val i d hd
          exact ⟨v, h1, q v σ S H (.refl S) R r⟩
        · rename_i d hd
          split at q
          · exact q.elim
          · obtain ⟨l, a, R2, F⟩ := R.take (.inl hd)
            exact ⟨_, a, q _ σ S H (.refl S) R2 ⟨l, rfl, F⟩⟩
        · rename_i d hd
          split at q
          · exact q.elim
          · obtain ⟨l, a, R2, F⟩ := R.take (.inr hd)
            exact ⟨_, a, q _ σ S H (.refl S) R2 ⟨l, rfl, F⟩⟩
        · exact q.elim
      · cases h
  · cases h
theorem w_ret0 {x : Stmt} (h : mS nm X.N exR exC X.env.scope .ret0 x = true) : PS X x (tS X.K ca G call refs W .ret0) := by
  unfold mS at h
  split at h
  · exact PS.weak ps_retN fun D σ H ⟨e, S, R, q⟩ => q .non σ S H (.refl S) R .non
  · cases h
theorem w_rse {ex : Ex} {x : Stmt} (g : GoodS nm ca call j exR exC ro X) (tk : Takes X W) (h : mS nm X.N exR exC X.env.scope (.rse ex) x = true) : PS X x (tS X.K ca G call refs W (.rse ex)) := by
  unfold mS at h
  split at h
  · rename_i f args kw pos _
    obtain ⟨h, h4⟩ := and2 h
    obtain ⟨h, h3⟩ := and2 h
    obtain ⟨h1, h2⟩ := and2 h
    obtain rfl := List.isEmpty_iff.mp h2
    obtain rfl := List.isEmpty_iff.mp h3
    obtain ⟨p, rfl, hg, hok⟩ := isNameB_ok h1
    obtain ⟨k1, _, _⟩ := okNm_ok hok
    have T := g.ex ex (of_decide_eq_true h4)
    have r : Raises X (.ref (ca ex)) := raises_own T.sub T.typ
    have mk : PMk X (.Call (.Name ex.name p) [] [] pos) (fun _ H Q => Q (.ref (ca ex)) none H) := by
      intro pins s σ H Q I hq
      refine wpAny_Call_Name_kw (ld_glob I hg T.mg ?_ k1)
      refine PySem.W.callWith_K0 I.kIn T.keep ?_
      obtain ⟨bm, N, nm, qn, bs, hdct, sn, sub, ab, col, dd, k0, k1, k2, k3, k5, mN, hC, hN, hni, T'⟩ := exc_obj I.kIn T.exc
      refine wpAny_call_exc_subT PySem.F.excBase_ValueError T' hC hN hni (fun h' e hm => ?_) (by show 0 ≤ sizeLine; exact Nat.zero_le _)
      exact mk_of I hm r hq (I.hok.gone hm.new)
    exact PS.weak (ps_raise g.calm tk mk) fun D σ H ⟨e, S, R, q⟩ => q σ S H (.refl S) R
  · cases h
end
end Vm

namespace Vm
open PySem PySem.Spec PyProof.Rows L2
section
variable {nm : Nat → Str} {ca : Ex → Addr} {G : Gh} {call : CallT} {j : Nat} {refs : List Nat} {W : WX} {X : Cx} {exR exC : List Ex} {ro : Addr}
theorem stoL_exc : ∀ {is : List Nat} {l : List D} {e1 e : Env} {x : Ex}, stoL refs is l e1 ≠ .exc x e := by
  intro is
  induction is with
  | nil => intro l e1 e x z; cases l <;> cases z
  | cons i is ih =>
    intro l e1 e x z
    cases l with
    | nil => cases z
    | cons d l =>
      unfold stoL at z
      cases hq : Vm.sto refs i (.val d) e1 with
      | bad => rw [hq] at z; cases z
      | exc x' e' => unfold Vm.sto at hq; split at hq <;> cases hq
      | ok a e2 => rw [hq] at z; exact ih z
theorem tgt_tup {is : List Nat} {t : Expr} (hc : X.calm = true) (hnd : X.N.Nodup) (hf : ∀ x, X.fn x = true) (h : tgtB X.N yesB X.env.scope true is t = true) : PG X t (fun v σ H Q => gTup X.K is.length (gNs is) v σ H Q ∨ gLst X.K is.length (gNs is) v σ H Q) ∧ (assignEach [t] X.env).map (·.2) = [assign t X.env] ∧ ∃ es k pos, t = .Tuple es k pos := by
  unfold tgtB at h
  dsimp only at h
  split at h
  · obtain ⟨h1, h2, h3⟩ := stosB_pg hnd (fn := yesB) (fun x _ => hf x) h
    exact ⟨Vm.PG.or (pg_tup hc h1 h2 h3) (pg_lst hc h1 h2 h3), rfl, _, _, _, rfl⟩
  · cases h
theorem w_unp {is : List Nat} {a : E} {x : Stmt} (g : GoodS nm ca call j exR exC ro X) (tk : Takes X W) (hR : ∀ r ∈ G.R, r.1 ∈ refs) (h : mS nm X.N exR exC X.env.scope (.unp is a) x = true) : PS X x (tS X.K ca G call refs W (.unp is a)) := by
  unfold mS at h
  split at h
  · split at h
    · rename_i v0 v pos t
      obtain ⟨h, h3⟩ := and2 h
      obtain ⟨h1, h2⟩ := and2 h
      obtain ⟨pg, ha, es, k, tp, rfl⟩ := tgt_tup g.calm g.nd g.fn h1
      refine PS.weak (ps_asg (exE g tk hR h2).1 pg (by cases v0 <;> first | rfl | cases h3) (by cases v0 <;> first | rfl | cases h3) ha) fun Z σ H ⟨e, S, R, q⟩ => ⟨e, S, [], R, ?_⟩
      simp only [evS] at q
      exact (PstS.to (σ := σ) q).imp fun p e1 S1 H1 hs1 R1 q1 v rv => by
        obtain ⟨S2, hs2, R2, r2⟩ := R1.rep rv
        obtain ⟨fr, d⟩ := p
        have go : ∀ (l : List D) (vs : List V), RepL X.K S2 vs l → PstS X.K ca G W Z S1 ((stoL refs is l e1).to fun _ e => .next e) → vs.length = is.length ∧ gNs is vs σ H1 Z.nx := fun l vs ra q1 => by
          cases hs : stoL refs is l e1 with
          | bad => rw [hs] at q1; exact q1.elim
          | exc x e =>
            exact absurd hs stoL_exc
          | ok u e2 =>
            rw [hs] at q1
            exact ⟨by rw [ra.length, stoL_len hs], stoL_run hR R2 ra hs fun σ2 R3 _ _ => q1 σ2 S2 H1 hs2 R3⟩
        cases d with
        | tup l =>
          cases r2 with
          | tup hb ra =>
            obtain ⟨z1, z2⟩ := go l _ ra q1
            exact .inl ⟨_, _, rfl, hb.sq R2.sub, z1, z2⟩
        | lst l =>
          cases r2 with
          | lst hb ra =>
            obtain ⟨z1, z2⟩ := go l _ ra q1
            exact .inr ⟨_, _, rfl, .of (R2.sub _ _ hb), z1, z2⟩
        | _ => exact q1.elim
    · cases h
  · cases h
theorem par_sw {env : PySem.Env} {x y : Str} {px py pt : Pos} {kt k2 : Nat} {pt2 : Pos} {a b : Expr} (hk : env.scope.kind = .function) (h : parB env.scope x y px py a b = true) (pa : plainX a = true) (pb : plainX b = true) :
    swappedStores [.Tuple [.Name x px, .Name y py] kt pt] (.Tuple [a, b] k2 pt2) env = pure (some [x, y]) := by
  unfold parB at h
  obtain ⟨h, h6⟩ := and2 h
  obtain ⟨h, h5⟩ := and2 h
  obtain ⟨h, h4⟩ := and2 h
  obtain ⟨h, h3⟩ := and2 h
  obtain ⟨h1, h2⟩ := and2 h
  have h1 : env.kindOf x = some .local := of_decide_eq_true h1
  have h2 : env.kindOf y = some .local := of_decide_eq_true h2
  have h3 := of_decide_eq_true h3
  have hb : env.blockKind = .function := by unfold Env.blockKind; rw [hk]; rfl
  have h5 : ([a, b].all (foldedForSure 8)) = false := (Bool.not_eq_true' _).mp h5
  have h6 : ([a, b].all (constantsAlone 8)) = false := (Bool.not_eq_true' _).mp h6
  have hs : ([a, b].any fun | .Starred .. => true | _ => false) = false := by
    have : ∀ {z : Expr}, plainX z = true → (match z with | .Starred .. => true | _ => false) = false := fun {z} q => by cases z <;> first | rfl | cases q
    rw [List.any_cons, List.any_cons, this pa, this pb]; rfl
  have hxy : [x, y].eraseDups.length = 2 := by
    have e : (y == x) = false := by simpa using Ne.symm h3
    simp [List.eraseDups, List.eraseDupsBy, List.eraseDupsBy.loop, e]
  unfold swappedStores
  dsimp only
  have h4' : py.line = px.line := by simpa using h4
  have e1 : (env.kindOf x == some NameKind.local) = true := by rw [h1]; rfl
  have e2 : (env.kindOf y == some NameKind.local) = true := by rw [h2]; rfl
  have tf : ∀ {b : Bool}, b = false → ¬ b = true := fun {b} h => by rw [h]; exact Bool.false_ne_true
  refine (if_neg (tf ?_)).trans ((if_neg (tf hs)).trans ?_)
  · rw [hb]; rfl
  have hf : ∀ (F : Expr → Option Str), F (.Name x px) = some x → F (.Name y py) = some y → List.filterMap F [.Name x px, .Name y py] = [x, y] := fun F f1 f2 => by rw [List.filterMap_cons, f1, List.filterMap_cons, f2]; rfl
  rw [hf _ (by show (if (env.kindOf x == some NameKind.local && px.line == px.line) = true then some x else none) = some x; rw [e1]; simp) (by show (if (env.kindOf y == some NameKind.local && py.line == px.line) = true then some y else none) = some y; rw [e2, h4']; simp)]
  refine (if_neg (tf ?_)).trans ((if_neg (tf h5)).trans ?_)
  · rw [hxy]; rfl
  · rw [if_neg (tf h6)]
theorem w_par {i k : Nat} {a b : E} {x : Stmt} (g : GoodS nm ca call j exR exC ro X) (tk : Takes X W) (hR : ∀ r ∈ G.R, r.1 ∈ refs) (h : mS nm X.N exR exC X.env.scope (.par i k a b) x = true) : PS X x (tS X.K ca G call refs W (.par i k a b)) := by
  unfold mS at h
  split at h
  · split at h
    · rename_i va vb _ _
      obtain ⟨h, h5⟩ := and2 h
      obtain ⟨h, h4⟩ := and2 h
      obtain ⟨h, h3⟩ := and2 h
      obtain ⟨h1, h2⟩ := and2 h
      have hN1 := of_decide_eq_true h1
      have hN2 := of_decide_eq_true h2
      have hsave := h3
      unfold parB at h3
      obtain ⟨h3, _⟩ := and2 h3
      obtain ⟨h3, _⟩ := and2 h3
      obtain ⟨h3, _⟩ := and2 h3
      obtain ⟨h3, h8⟩ := and2 h3
      obtain ⟨h6, h7⟩ := and2 h3
      have hne := of_decide_eq_true h8
      have hik : i ≠ k := fun z => by
        subst z
        rw [hN1] at hN2
        exact hne (Option.some.inj hN2)
      refine PS.weak (ps_par g.calm g.nd hN1 hN2 hik (of_decide_eq_true h6) (of_decide_eq_true h7) (pa_cons (exE g tk hR h4).1 (pa_cons (exE g tk hR h5).1 pa_nil (plain_star (mE_plain h5) _ _)) (plain_star (mE_plain h4) _ _)) (par_sw g.kind hsave (mE_plain h4) (mE_plain h5))) fun Z σ H ⟨e, S, R, q⟩ => ⟨e, S, [], R, ?_⟩
      simp only [evS] at q
      exact (PstS.to (σ := σ) q).imp fun p e1 S1 H1 hs1 R1 q1 v rv => by
        obtain ⟨S2, hs2, R2, r2⟩ := R1.rep rv
        refine ⟨e1, S2, [], R2, ?_⟩
        exact (PstS.to (σ := σ) (PstS.mono hs2 q1)).imp fun p' e3 S3 H3 hs3 R3 q3 w rw' => by
          obtain ⟨S4, hs4, R4, r4⟩ := R3.rep rw'
          refine ⟨v, w, rfl, ?_⟩
          cases hq : Vm.sto refs k (.val p'.2) e3 with
          | bad => rw [hq] at q3; exact q3.elim
          | exc x e => unfold Vm.sto at hq; split at hq <;> cases hq
          | ok u e4 =>
            rw [hq] at q3
            obtain ⟨z1, z2, rfl⟩ := sto_ok hq
            have q3 : PstS X.K ca G W Z S3 ((Vm.sto refs i (.val p.2) (e3.set k (.val p'.2))).to fun _ e => .next e) := q3
            cases hq2 : Vm.sto refs i (.val p.2) (e3.set k (.val p'.2)) with
            | bad => rw [hq2] at q3; exact q3.elim
            | exc x e => unfold Vm.sto at hq2; split at hq2 <;> cases hq2
            | ok u e5 =>
              rw [hq2] at q3
              obtain ⟨y1, y2, rfl⟩ := sto_ok hq2
              have R5 := (R4.sto r4 z2 (nr hR z1)).sto ((r2.mono hs3).mono hs4) y2 (nr hR y1)
              rw [List.set_comm (some w) (some v) (Ne.symm hik)] at R5
              exact q3 _ S4 H3 hs4 R5
    · cases h
  · cases h
theorem modify_ok {K : PySem.W.Frag} {Z : Ends} {S : Hp} {e : Env} {i : Nat} {f : D → Option D} (q : PstS K ca G W Z S (modify e i f)) : ∃ d d', e[i]? = some (.own d) ∧ f d = some d' ∧ PstS K ca G W Z S (.next (e.set i (.own d'))) := by
  unfold modify at q
  split at q
  · rename_i d hd
    cases hf : f d with
    | none => rw [hf] at q; exact q.elim
    | some d' => rw [hf] at q; exact ⟨d, d', hd, hf, q⟩
  · exact q.elim
theorem w_app {i : Nat} {a : E} {x : Stmt} (g : GoodS nm ca call j exR exC ro X) (tk : Takes X W) (hR : ∀ r ∈ G.R, r.1 ∈ refs) (h : mS nm X.N exR exC X.env.scope (.app i a) x = true) : PS X x (tS X.K ca G call refs W (.app i a)) := by
  unfold mS at h
  split at h
  · rename_i z zp name apos args kw pos p2
    obtain ⟨h, h5⟩ := and2 h
    obtain ⟨h, h4⟩ := and2 h
    obtain ⟨h, h3⟩ := and2 h
    obtain ⟨h1, h2⟩ := and2 h
    obtain rfl := of_decide_eq_true h2
    obtain rfl := List.isEmpty_iff.mp h4
    split at h5
    · rename_i y
      have st := plain_star (mE_plain h5) [] X.env
      have call := pe_bm (X := X) (cpos := pos) F.plainAttrs_list F.slot_list_append F.type_list_append mt_append (pe_name h1 (pos := zp)) (pa_cons (exE (refs := refs) (G := G) g tk hR h5).1 pa_nil st) rfl (by rw [st]; rfl) h3 st rfl
      refine PS.weak (ps_expr call) fun Z σ H ⟨e, S, R, q⟩ => ?_
      simp only [evS] at q
      split at q
      · rename_i l0 hl0
        obtain ⟨l, hat, ⟨_, vs0, hv0, ra0⟩, _⟩ := R.own i _ (.inl hl0)
        refine ⟨.ref l, hat, .inl ⟨rfl, vs0, .of hv0⟩, e, S, [], R, ?_⟩
        exact (PstS.to (σ := σ) q).imp fun p e1 S1 H1 hs1 R1 q1 v rv => by
          obtain ⟨S2, hs2, R2, r2⟩ := R1.rep rv
          obtain ⟨d, d', hd, hf, q2⟩ := modify_ok q1
          cases d with
          | lst ds =>
            unfold appD at hf
            dsimp only at hf
            split at hf
            · rename_i hlen
              cases hf
              obtain ⟨l', hat', ⟨on, vs, hv, ra⟩, _⟩ := R2.own i _ (.inl hd)
              have := at_inj hat hat'
              subst this
              refine ⟨l, vs, v, rfl, rfl, hv, by rw [line_eq, ra.length]; omega, ?_⟩
              exact q2 σ S2 _ hs2 (R2.write (.inl hd) hat ⟨_, upd_same, ra.append (.cons r2 .nil)⟩)
            · cases hf
          | _ => cases hf
      · exact q.elim
    · cases h5
  · cases h
theorem w_ins {i : Nat} {kx a : E} {x : Stmt} (g : GoodS nm ca call j exR exC ro X) (tk : Takes X W) (hR : ∀ r ∈ G.R, r.1 ∈ refs) (h : mS nm X.N exR exC X.env.scope (.ins i kx a) x = true) : PS X x (tS X.K ca G call refs W (.ins i kx a)) := by
  unfold mS at h
  split at h
  · rename_i z zp name apos args kw pos p2
    obtain ⟨h, h5⟩ := and2 h
    obtain ⟨h, h4⟩ := and2 h
    obtain ⟨h, h3⟩ := and2 h
    obtain ⟨h1, h2⟩ := and2 h
    obtain rfl := of_decide_eq_true h2
    obtain rfl := List.isEmpty_iff.mp h4
    split at h5
    · rename_i w y
      obtain ⟨h5, h6⟩ := and2 h5
      have st1 := plain_star (mE_plain h5) [y] X.env
      have st2 := plain_star (mE_plain h6) [] X.env
      have call := pe_bm (X := X) (cpos := pos) F.plainAttrs_list F.slot_list_insert F.type_list_insert mt_insert (pe_name h1 (pos := zp)) (pa_cons (sO h5 (exE (refs := refs) (G := G) g tk hR h5).1) (pa_cons (exE (refs := refs) (G := G) g tk hR h6).1 pa_nil st2) st1) rfl (by rw [st1, st2]; rfl) h3 st1 (by rw [st2]; rfl)
      refine PS.weak (ps_expr call) fun Z σ H ⟨e, S, R, q⟩ => ?_
      simp only [evS] at q
      split at q
      · rename_i l0 hl0
        obtain ⟨l, hat, ⟨_, vs0, hv0, ra0⟩, _⟩ := R.own i _ (.inl hl0)
        refine ⟨.ref l, hat, .inl ⟨rfl, vs0, .of hv0⟩, e, S, [], R, ?_⟩
        exact (PstS.to (σ := σ) q).imp fun o e1 S1 H1 hs1 R1 q1 w ow => ⟨e1, S1, [], R1, (PstS.to (σ := σ) q1).imp fun p e2 S2 H2 hs2 R2 q2 v rv => by
          obtain ⟨S3, hs3, R3, r3⟩ := R2.rep rv
          unfold modK at q2
          cases hg : got o e2 with
          | none => rw [hg] at q2; exact q2.elim
          | some kd =>
            rw [hg] at q2
            have sw := R3.see (ow.mono (hs2.trans hs3)) hg
            obtain ⟨d, d', hd, hf, q3⟩ := modify_ok q2
            dsimp only at hf
            unfold insD at hf
            split at hf
            · rename_i ds ii
              split at hf
              · rename_i hc
                cases hf
                obtain rfl := see_int sw
                obtain ⟨l', hat', ⟨on, vs, hv, ra⟩, _⟩ := R3.own i _ (.inl hd)
                have := at_inj hat hat'
                subst this
                refine ⟨l, vs, ii, v, rfl, rfl, hv, by rw [line_eq, ra.length]; omega, hc.2.1, by omega, ?_⟩
                exact q3 σ S3 _ hs3 (R3.write (.inl hd) hat ⟨_, upd_same, ((ra.take _).append (.cons r3 .nil)).append (ra.drop _)⟩)
              · cases hf
            · cases hf⟩
      · exact q.elim
    · cases h5
  · cases h
theorem w_pop {i : Nat} {x : Stmt} (g : GoodS nm ca call j exR exC ro X) (h : mS nm X.N exR exC X.env.scope (.pop i) x = true) : PS X x (tS X.K ca G call refs W (.pop i)) := by
  unfold mS at h
  split at h
  · rename_i z zp name apos args kw pos p2
    obtain ⟨h, h5⟩ := and2 h
    obtain ⟨h, h4⟩ := and2 h
    obtain ⟨h, h3⟩ := and2 h
    obtain ⟨h1, h2⟩ := and2 h
    obtain rfl := of_decide_eq_true h2
    obtain rfl := List.isEmpty_iff.mp h4
    obtain rfl := List.isEmpty_iff.mp h5
    have call := pe_bm0 (X := X) (cpos := pos) F.plainAttrs_list F.slot_list_pop F.type_list_pop mt_pop (pe_name h1 (pos := zp)) rfl h3
    refine PS.weak (ps_expr call) fun Z σ H ⟨e, S, R, q⟩ => ?_
    simp only [evS] at q
    obtain ⟨d, d', hd, hf, q2⟩ := modify_ok q
    obtain ⟨l, hat, on, _⟩ := R.own i _ (.inl hd)
    unfold popD at hf
    split at hf
    · rename_i ds
      split at hf
      · cases hf
      · rename_i hne
        cases hf
        obtain ⟨_, vs, hv, ra⟩ := on
        have hlen := ra.length
        have hpos : 0 < ds.length := List.length_pos_iff.mpr hne
        have hk : vs.length - 1 < vs.length := by omega
        refine ⟨.ref l, hat, .inl ⟨rfl, vs, .of hv⟩, l, vs, vs[vs.length - 1], rfl, rfl, hv, List.getElem?_eq_getElem hk, ?_⟩
        exact q2 σ S _ (.refl S) (R.write (.inl hd) hat ⟨_, upd_same, ra.dropLast⟩)
    · cases hf
  · cases h
theorem putK_zip {κ : Type} [DecidableEq κ] {K : PySem.W.Frag} {S : Hp} {v : V} {d : D} (r : Rep K S v d) (k : κ) : ∀ {l : List (κ × D)} {vs : List V}, RepL K S vs (l.map (·.2)) →
    ∃ vs', putK ((l.map (·.1)).zip vs) k v = ((put l k d).map (·.1)).zip vs' ∧ RepL K S vs' ((put l k d).map (·.2)) := by
  intro l vs ra
  have hlen : vs.length = l.length := by have := ra.length; rwa [List.length_map] at this
  have hany : ∀ {l : List (κ × D)} {vs : List V}, vs.length = l.length → (((l.map (·.1)).zip vs).any fun kv => decide (kv.1 = k)) = (look l k).isSome := by
    intro l
    induction l with
    | nil => intro vs _; rfl
    | cons p l ih =>
      intro vs h
      match vs, h with
      | v :: vs, h =>
        have ih := ih (vs := vs) (by simpa using h)
        rw [List.map_cons, List.zip_cons_cons, List.any_cons, ih]
        unfold look
        rw [List.find?_cons]
        by_cases hk : p.1 = k
        · simp [hk]
        · simp [hk]
  unfold putK put
  rw [hany hlen]
  by_cases hs : (look l k).isSome = true
  · rw [if_pos hs, if_pos hs]
    have : ∀ {l : List (κ × D)} {vs : List V}, RepL K S vs (l.map (·.2)) → ∃ vs', (((l.map (·.1)).zip vs).map fun kv => if kv.1 = k then (kv.1, v) else kv) = ((l.map fun kv => if kv.1 = k then (kv.1, d) else kv).map (·.1)).zip vs' ∧ RepL K S vs' ((l.map fun kv => if kv.1 = k then (kv.1, d) else kv).map (·.2)) := by
      intro l
      induction l with
      | nil => intro vs r; cases r; exact ⟨[], rfl, .nil⟩
      | cons p l ih =>
        intro vs ra
        cases ra with
        | @cons v1 _ _ _ r1 r2 =>
          obtain ⟨vs', h1, h2⟩ := ih r2
          by_cases hk : p.1 = k
          · refine ⟨v :: vs', ?_, ?_⟩
            · simp only [List.map_cons, List.zip_cons_cons, hk, if_true, h1]
            · simp only [List.map_cons, hk, if_true]; exact .cons r h2
          · refine ⟨v1 :: vs', ?_, ?_⟩
            · simp only [List.map_cons, List.zip_cons_cons, if_neg hk, h1]
            · simp only [List.map_cons, if_neg hk]; exact .cons r1 h2
    exact this ra
  · rw [if_neg hs, if_neg hs]
    refine ⟨vs ++ [v], ?_, ?_⟩
    · rw [List.map_append, List.zip_append (by rw [List.length_map]; exact hlen.symm)]; rfl
    · rw [List.map_append]; exact ra.append (.cons r .nil)
theorem w_seti {i : Nat} {kx a : E} {x : Stmt} (g : GoodS nm ca call j exR exC ro X) (tk : Takes X W) (hR : ∀ r ∈ G.R, r.1 ∈ refs) (h : mS nm X.N exR exC X.env.scope (.seti i kx a) x = true) : PS X x (tS X.K ca G call refs W (.seti i kx a)) := by
  have hu : X.A.units + 1 < cLine := by have := g.room.un; omega
  have ps : PSet X (fun o k v H Q => rSetL o k v H Q ∨ rSetD o k v H Q) := fun pins s σ H o i v ov iv u Q I ro ri rv q => by
    rcases q with q | q
    · exact set_list pins s σ H o i v ov iv u Q I ro ri rv q
    · exact set_dict hu pins s σ H o i v ov iv u Q I ro ri rv q
  unfold mS at h
  split at h
  · split at h
    · rename_i v pos _ z zp ky kp
      obtain ⟨h, h4⟩ := and2 h
      obtain ⟨h, h3⟩ := and2 h
      obtain ⟨h1, h2⟩ := and2 h
      refine PS.weak (ps_asg (exE g tk hR h3).1 (pg_sub (pe_name h1) (sO h2 (exE g tk hR h2).1) ps (by intro v; have hp := mE_plain h2; cases ky <;> first | rfl | cases hp)) (by cases v <;> rfl) (by cases v <;> rfl)) fun Z σ H ⟨e, S, R, q⟩ => ⟨e, S, [], R, ?_⟩
      simp only [evS] at q
      exact (PstS.to (σ := σ) q).imp fun p e1 S1 H1 hs1 R1 q1 v rv => by
        obtain ⟨S2, hs2, R2, r2⟩ := R1.rep rv
        split at q1
        · rename_i d0 hd0
          obtain ⟨l, hat, _, _⟩ := R2.own i _ (.inl hd0)
          refine ⟨.ref l, hat, e1, S2, [], R2, ?_⟩
          exact (PstS.to (σ := σ) (PstS.mono hs2 q1)).imp fun o e3 S3 H3 hs3 R3 q3 w ow => by
            unfold modK at q3
            cases hg : got o e3 with
            | none => rw [hg] at q3; exact q3.elim
            | some kd =>
              rw [hg] at q3
              have sw := R3.see ow hg
              obtain ⟨d, d', hd, hf, q4⟩ := modify_ok q3
              obtain ⟨l', hat', ho, _⟩ := R3.own i _ (.inl hd)
              have := at_inj hat hat'
              subst this
              have r3 := r2.mono hs3
              have nx : ∀ u', OwnAt X.K S3 (upd H3 l u') l d' → Z.nx σ (upd H3 l u') := fun u' hu' => q4 σ S3 _ (.refl S3) (R3.write (.inl hd) hat hu')
              dsimp only at hf
              unfold setD at hf
              split at hf
              · rename_i ds z
                simp only [Option.map_eq_some_iff] at hf
                obtain ⟨jj, hj, rfl⟩ := hf
                obtain ⟨vs, hv, ra⟩ := ho.2
                obtain rfl := see_int sw
                exact .inl ⟨l, vs, z, jj, rfl, rfl, hv, by rw [ra.length]; exact hj, nx _ ⟨_, upd_same, ra.set r3 jj⟩⟩
              · rename_i ds
                obtain ⟨vs, hv, ra⟩ := ho.2
                cases hk : keyOf kd with
                | none => rw [hk] at hf; cases hf
                | some kk =>
                  have hy := sw.key R3.sub hk
                  cases kk with
                  | inr x => rw [hk] at hf; cases hf
                  | inl x =>
                    rw [hk] at hf
                    dsimp only at hf
                    split at hf
                    · rename_i hlen
                      cases hf
                      have hy : w = kV x := hy
                      subst hy
                      obtain ⟨vs', h1', h2'⟩ := putK_zip r3 x ra
                      refine .inr ⟨l, _, rfl, DPut.k hv (by rw [KVT_size ra, line_eq]; omega), nx _ ⟨vs', by rw [upd_same, h1'], h2'⟩⟩
                    · cases hf
              · rename_i ds
                obtain ⟨vs, hv, ra⟩ := ho.2
                cases hk : keyOf kd with
                | none => rw [hk] at hf; cases hf
                | some kk =>
                  have hy := sw.key R3.sub hk
                  cases kk with
                  | inl x => rw [hk] at hf; cases hf
                  | inr x =>
                    rw [hk] at hf
                    dsimp only at hf
                    split at hf
                    · rename_i hlen
                      cases hf
                      obtain ⟨bb, rfl, hb⟩ := hy
                      obtain ⟨vs', h1', h2'⟩ := putK_zip r3 x ra
                      refine .inr ⟨l, _, rfl, DPut.t hv hb (by rw [KVT_size ra, line_eq]; omega), nx _ ⟨vs', by rw [upd_same, h1'], h2'⟩⟩
                    · cases hf
              · cases hf
        · exact q1.elim
    · cases h
  · cases h
end
end Vm

namespace Vm
open PySem PySem.Spec PyProof.Rows L2
def IHb (nm : Nat → Str) (ca : Ex → Addr) (call : CallT) (j : Nat) (exR exC : List Ex) (ro : Addr) (n : Nat) : Prop := ∀ (b : Ss), sizeOf b < n → ∀ (X : Cx) (G : Gh) (refs : List Nat) (W : WX), GoodS nm ca call j exR exC ro X → Takes X W → (∀ r ∈ G.R, r.1 ∈ refs) →
  ∀ l, mSs nm X.N exR exC X.env.scope b l = true → PSs X l (tSs X.K ca G call refs W b)
section
variable {nm : Nat → Str} {ca : Ex → Addr} {G : Gh} {call : CallT} {j : Nat} {refs : List Nat} {W : WX} {X : Cx} {exR exC : List Ex} {ro : Addr} {n : Nat}
theorem w_ifs {c : E} {a b : Ss} {x : Stmt} (g : GoodS nm ca call j exR exC ro X) (tk : Takes X W) (hR : ∀ r ∈ G.R, r.1 ∈ refs) (ih : IHb nm ca call j exR exC ro n) (hn : sizeOf (S.ifs c a b) ≤ n) (h : mS nm X.N exR exC X.env.scope (.ifs c a b) x = true) : PS X x (tS X.K ca G call refs W (.ifs c a b)) := by
  unfold mS at h
  split at h
  · obtain ⟨h, h4⟩ := and2 h
    obtain ⟨h, h3⟩ := and2 h
    obtain ⟨h1, h2⟩ := and2 h
    refine PS.weak (ps_if ((exE g tk hR h1).2 h2) (ih a (by simp at hn; omega) X G refs W g tk hR _ h3) (ih b (by simp at hn; omega) X G refs W g tk hR _ h4)) fun Z σ H ⟨e, S, R, q⟩ => ⟨e, S, [], R, ?_⟩
    simp only [evS] at q
    exact (PstS.to (σ := σ) q).imp fun k e1 S1 H1 hs1 R1 q1 => by
      cases k with
      | true => exact ⟨e1, S1, R1, q1⟩
      | false => exact ⟨e1, S1, R1, q1⟩
  · cases h
theorem stoT_exc {tp : Bool} {ts : List Nat} {d : D} {e e1 : Env} {x : Ex} : stoT refs tp ts d e ≠ .exc x e1 := by
  unfold stoT
  split
  · intro z; unfold Vm.sto at z; split at z <;> cases z
  · exact stoL_exc
  · intro z; cases z
theorem w_loop {tp : Bool} {ts : List Nat} {src : Src} {b : Ss} {x : Stmt} (g : GoodS nm ca call j exR exC ro X) (tk : Takes X W) (hR : ∀ r ∈ G.R, r.1 ∈ refs) (ih : IHb nm ca call j exR exC ro n) (hn : sizeOf (S.loop tp ts src b) ≤ n) (h : mS nm X.N exR exC X.env.scope (.loop tp ts src b) x = true) : PS X x (tS X.K ca G call refs W (.loop tp ts src b)) := by
  unfold mS at h
  split at h
  · rename_i tg iter body orelse pos
    obtain ⟨h, h4⟩ := and2 h
    obtain ⟨h, h3⟩ := and2 h
    obtain ⟨h1, h2⟩ := and2 h
    obtain rfl := List.isEmpty_iff.mp h1
    have pi := sSrc (tg := tg) (G := G) (refs := refs) g.toGood tk hR (main_E (sizeOf src)) (Nat.le_refl _) h3
    have pg := tgtB_pg (fn := yesB) g.calm g.nd (fun y _ => g.fn y) h2
    have pb : PSs X body (fun Z σ H => ∃ (G' : Gh) (refs' : List Nat), (∀ r ∈ G'.R, r.1 ∈ refs') ∧ tSs X.K ca G' call refs' W b Z σ H) := ⟨fun pins s σ H Z I ⟨G', refs', hR', q⟩ => (ih b (by simp at hn; omega) X G' refs' W g tk hR' _ h4).run pins s σ H Z I q⟩
    refine PS.weak (ps_for g.hp g.calm pi pg pb (plain_fold (mSrc_plain h3) X.env)) fun Z σ H ⟨e, S, R, q⟩ => ⟨e, S, [], R, ?_⟩
    simp only [evS] at q
    exact (PstS.to (σ := σ) q).imp fun w e1 S1 H1 hs1 R1 q1 J wk => by
      obtain ⟨G', gR, gto, gof, gH, gB⟩ : ∃ G' : Gh, (∀ r ∈ G'.R, r.1 ∈ w.ix ++ refs) ∧ (∀ {e : Env} {S H : Hp}, Rel X.K G [] e σ S H → Rel X.K G' [] e σ S H) ∧ (∀ {e : Env} {σ' : L2.St} {S H : Hp}, Rel X.K G' [] e σ' S H → Rel X.K G [] e σ' S H ∧ ∀ i ∈ w.ix, σ'[i]? = σ[i]?) ∧ G'.H = G.H ∧ G'.B = G.B := by
        cases w with
        | st l => exact ⟨G, hR, (fun h => h), (fun h => ⟨h, fun i hi => by simp [Wk.ix] at hi⟩), rfl, rfl⟩
        | ow i k =>
          obtain ⟨l, hat, _⟩ := wk
          refine ⟨{ G with R := (i, l) :: G.R }, fun r hr => ?_, fun h => h.addR hat, fun h => ⟨h.delR.1, fun i' hi => ?_⟩, rfl, rfl⟩
          · rcases List.mem_cons.mp hr with rfl | hr
            · simp [Wk.ix]
            · exact List.mem_append_right _ (hR r hr)
          · have : i' = i := by simpa [Wk.ix] using hi
            subst this
            have h1 := h.delR.2
            have h1 : _ = _ := h1
            have h2 : _ = _ := hat
            rw [h1, h2]
      have rvG : ∀ {e : Env} {σ' : L2.St} {S H : Hp} {p : Bool × D} {v : V}, RV X.K G' [] e σ' S H p v → RV X.K G [] e σ' S H p v := fun {e σ' S H p v} rv => by
        obtain ⟨fr, d⟩ := p
        cases fr with
        | true =>
          obtain ⟨l, rfl, F⟩ := rv
          exact ⟨l, rfl, F.own, F.noe, F.nop, by rw [← gH, ← gB]; exact F.gh⟩
        | false => exact rv
      refine ⟨fun i m σ' H => ∃ e S, Sub S1 S ∧ Rel X.K G' [] e σ' S H ∧ PstS X.K ca G W Z S (forL (fun e => evSs call b (w.ix ++ refs) e) (stoT (w.ix ++ refs) tp ts) w m i e), ⟨w.fuel, e1, S1, .refl S1, gto R1, q1⟩, ?_⟩
      rintro i m σ2 H2 ⟨e, S2, hs2, R2, q2⟩
      have fin : w.look e i = some none → PstS X.K ca G W Z S2 (.next e) → J.stop i H2 ∧ Z.nx σ2 H2 := fun hl q2 => ⟨wk.look (n := i) (o := none) hs2 (gof R2).1 (gof R2).2 hl, q2 σ2 S2 H2 (.refl S2) (gof R2).1⟩
      cases m with
      | zero =>
        unfold forL at q2
        split at q2
        · rename_i hl; exact .inl (fin hl q2)
        · exact q2.elim
      | succ k =>
        unfold forL at q2
        split at q2
        · rename_i hl; exact .inl (fin hl q2)
        · rename_i d hl
          have sv := wk.look (n := i) (o := some d) hs2 (gof R2).1 (gof R2).2 hl
          refine .inr ⟨sv.1, _, fun σ' H' hN => ⟨k, Nat.lt_succ_self k, hN⟩, fun x H' y => ?_⟩
          obtain ⟨rfl, rx⟩ := sv.2 x H' y
          cases hst : stoT (w.ix ++ refs) tp ts d e with
          | bad => rw [hst] at q2; exact q2.elim
          | exc y e' => exact absurd hst stoT_exc
          | ok u e3 =>
            rw [hst] at q2
            refine stoT_run gR R2 rx hst fun σ3 R3 _ _ => ⟨G', w.ix ++ refs, gR, e3, S2, R3, ?_⟩
            have q2 : PstS X.K ca G W Z S2 ((evSs call b (w.ix ++ refs) e3).then fun e => forL (fun e => evSs call b (w.ix ++ refs) e) (stoT (w.ix ++ refs) tp ts) w k (i + 1) e) := q2
            cases hb : evSs call b (w.ix ++ refs) e3 with
            | bad => rw [hb] at q2; exact q2.elim
            | next e4 =>
              rw [hb] at q2
              exact fun σ' S' H' hs' R' => ⟨e4, S', hs2.trans hs', R', PstS.mono hs' q2⟩
            | ret fr d' e4 =>
              rw [hb] at q2
              exact fun v σ' S' H' hs' R' rv => q2 v σ' S' H' hs' (gof R').1 (rvG rv)
            | exc y e4 =>
              rw [hb] at q2
              exact fun σ' S' H' hs' R' => q2 σ' S' H' hs' (gof R').1
        · exact q2.elim
  · cases h
theorem w_whl {fuel : Env → Nat} {c : E} {b : Ss} {x : Stmt} (g : GoodS nm ca call j exR exC ro X) (tk : Takes X W) (hR : ∀ r ∈ G.R, r.1 ∈ refs) (ih : IHb nm ca call j exR exC ro n) (hn : sizeOf (S.whl fuel c b) ≤ n) (h : mS nm X.N exR exC X.env.scope (.whl fuel c b) x = true) : PS X x (tS X.K ca G call refs W (.whl fuel c b)) := by
  unfold mS at h
  split at h
  · obtain ⟨h, h4⟩ := and2 h
    obtain ⟨h, h3⟩ := and2 h
    obtain ⟨h1, h2⟩ := and2 h
    obtain rfl := List.isEmpty_iff.mp h1
    refine PS.weak (ps_while g.hp ((exE g tk hR h2).2 h3) (ih b (by simp at hn; omega) X G refs W g tk hR _ h4)) fun Z σ H ⟨e, S, R, q⟩ => ?_
    simp only [evS] at q
    refine ⟨fun m σ H => ∃ e S, Rel X.K G [] e σ S H ∧ PstS X.K ca G W Z S (whlL (fun e => evT call refs c e) (fun e => evSs call b refs e) m e), ⟨_, e, S, R, q⟩, ?_⟩
    rintro m σ2 H2 ⟨e2, S2, R2, q2⟩
    cases m with
    | zero => exact q2.elim
    | succ k =>
      unfold whlL at q2
      refine ⟨e2, S2, [], R2, ?_⟩
      exact (PstS.to (σ := σ2) q2).imp fun t e3 S3 H3 hs3 R3 q3 => by
        cases t with
        | true =>
          rw [if_pos rfl] at q3
          refine ⟨_, fun σ' H' hN => ⟨k, Nat.lt_succ_self k, hN⟩, e3, S3, R3, ?_⟩
          have q3 : PstS X.K ca G W Z S3 ((evSs call b refs e3).then fun e => whlL (fun e => evT call refs c e) (fun e => evSs call b refs e) k e) := q3
          cases hb : evSs call b refs e3 with
          | bad => rw [hb] at q3; exact q3.elim
          | next e4 => rw [hb] at q3; exact fun σ' S' H' hs' R' => ⟨e4, S', R', PstS.mono hs' q3⟩
          | ret fr d' e4 => rw [hb] at q3; exact q3
          | exc y e4 => rw [hb] at q3; exact q3
        | false =>
          rw [if_neg Bool.false_ne_true] at q3
          exact q3 σ2 S3 H3 (.refl S3) R3
  · cases h
end
end Vm

namespace Vm
open PySem PySem.Spec PyProof.Rows L2
section
variable {nm : Nat → Str} {ca : Ex → Addr} {G : Gh} {call : CallT} {j : Nat} {refs : List Nat} {W : WX} {X : Cx} {exR exC : List Ex} {ro : Addr} {n : Nat}
def isX (x : Ex) (c : Option Ex) : Bool := match c with
  | some y => decide (x = y)
  | none => true
def tIs (i : Nat) (a : Addr) (x : Ex) (cs : List (Option Ex)) : TA := fun σ H Q => At σ i a ∧ Q (cs.map fun c => V.bl (isX x c)) H
theorem is_one {i : Nat} {a : Addr} {oe : Obj} {pn : List (Addr × Obj)} {x : Ex} {c : Option Ex} {y : Expr} {n : Str} (g : GoodS nm ca call j exR exC ro X) (hx : x ∈ exR) (hN : X.N[i]? = some n) (hl : X.env.scope.names.lookup n = some .local) (hok : okNm n = true) (hz : Zc (.ref (ca x)) none oe) (hf : ∃ vs, oe.data = .fields vs)
    (h : isiB exC X.env.scope n c y = true) : PE (X.suite a ((a, oe) :: pn)) y (fun σ H Q => At σ i a ∧ Q (.bl (isX x c)) H) ∧ plainX y = true := by
  have T := g.ex x hx
  have hv : varB X.N X.env.scope i n = true := by
    unfold varB visB
    rw [hl, hok, decide_eq_true hN]; rfl
  unfold isiB at h
  split at h
  · rename_i f args kw pos
    obtain ⟨h, h3⟩ := and2 h
    obtain ⟨h1, h2⟩ := and2 h
    obtain rfl := List.isEmpty_iff.mp h2
    obtain ⟨p, rfl, hg, _⟩ := isNameB_ok h1
    split at h3
    · rename_i ea eb
      obtain ⟨h4, h5⟩ := and2 h3
      split at h4
      · rename_i z zp
        obtain rfl := of_decide_eq_true h4
        have pn' : PE (X.suite a ((a, oe) :: pn)) (.Name z zp) (tVar i) := pe_name (X := X.suite a ((a, oe) :: pn)) hv
        refine ⟨?_, rfl⟩
        have bi : bootBuiltins "isinstance" = some (.builtin "isinstance") := by decide +kernel
        cases c with
        | some yy =>
          obtain ⟨h6, h7⟩ := and2 h5
          have h7 := of_decide_eq_true h7
          obtain ⟨p', rfl, hg', hok'⟩ := isNameB_ok h6
          obtain ⟨k1, _, _⟩ := okNm_ok hok'
          have pc : PE (X.suite a ((a, oe) :: pn)) (.Name yy.name p') (tC (.ref (ca yy))) := pe_glob hg' (g.exc yy h7) rfl k1
          exact PE.weak (pe_callB (call_isE T.isE hz hf) hg (g.free "isinstance" (by simp [freeNames])) bi (pa_cons pn' (pa_cons pc pa_nil)) (by decide) (by decide) rfl rfl) fun σ H Q ⟨hat, q⟩ => ⟨_, hat, _, _, _, rfl, (fun u r => r), T.kit yy h7, q⟩
        | none =>
          obtain ⟨p', rfl, hg', hok'⟩ := isNameB_ok h5
          have pc : PE (X.suite a ((a, oe) :: pn)) (.Name "ValueError" p') (tC (.ty "ValueError")) := pe_bltn hg' (g.free "ValueError" (by simp [freeNames])) (u := .type "ValueError") (by decide +kernel) rfl (by decide) (by decide)
          exact PE.weak (pe_callB (call_isE T.isE hz hf) hg (g.free "isinstance" (by simp [freeNames])) bi (pa_cons pn' (pa_cons pc pa_nil)) (by decide) (by decide) rfl rfl) fun σ H Q ⟨hat, q⟩ => ⟨_, hat, _, _, _, rfl, (fun u r => r), T.kitV, q⟩
      · cases h4
    · cases h3
  · cases h
theorem is_all {i : Nat} {a : Addr} {oe : Obj} {pn : List (Addr × Obj)} {x : Ex} {n : Str} (g : GoodS nm ca call j exR exC ro X) (hx : x ∈ exR) (hN : X.N[i]? = some n) (hl : X.env.scope.names.lookup n = some .local) (hok : okNm n = true) (hz : Zc (.ref (ca x)) none oe) (hf : ∃ vs, oe.data = .fields vs) :
    ∀ {cs : List (Option Ex)} {l : List Expr}, isisB exC X.env.scope n cs l = true → PA (X.suite a ((a, oe) :: pn)) l (tIs i a x cs)
  | [], l, h => by
    unfold isisB at h
    obtain rfl := List.isEmpty_iff.mp h
    exact PA.weak pa_nil fun σ H Q ⟨_, q⟩ => q
  | c :: cs, l, h => by
    unfold isisB at h
    split at h
    · obtain ⟨h1, h2⟩ := and2 h
      obtain ⟨p1, pl⟩ := is_one (pn := pn) (a := a) g hx hN hl hok hz hf h1
      exact PA.weak (pa_cons p1 (is_all g hx hN hl hok hz hf h2) (plain_star pl _ _)) fun σ H Q ⟨hat, q⟩ => ⟨hat, hat, q⟩
    · cases h
def PstH (K : PySem.W.Frag) (G : Gh) (Z : Ends) (S : Hp) : SR → Prop
  | .next e' => ∀ σ' S' H', Sub S S' → Rel K G [] e' σ' S' H' → Z.nx σ' H'
  | _ => False
theorem PstH.mono {K : PySem.W.Frag} {G : Gh} {Z : Ends} {S S1 : Hp} {r : SR} (hs : Sub S S1) (h : PstH K G Z S r) : PstH K G Z S1 r := by
  cases r with
  | next e => exact fun σ' S' H' q R => h σ' S' H' (hs.trans q) R
  | _ => exact h
def tHn (K : PySem.W.Frag) (G : Gh) (i : Nat) (a : Addr) (refs : List Nat) (x : Ex) (h : List (Nat × Bool × List (Option Ex))) : TS := fun Z σ H => ∃ e S, Rel K G [] e σ S H ∧ At σ i a ∧ PstH K G Z S (hndl refs x h e)
theorem boolsR {K : PySem.W.Frag} {S : Hp} {x : Ex} : ∀ {cs : List (Option Ex)}, RepL K S (cs.map fun c => V.bl (isX x c)) (cs.map fun c => D.bl (isX x c))
  | [] => .nil
  | _ :: r => .cons (.bl _) boolsR
theorem hndl_cons {x : Ex} {jj : Nat} {ap : Bool} {cs : List (Option Ex)} {r : List (Nat × Bool × List (Option Ex))} {e : Env} : hndl refs x ((jj, ap, cs) :: r) e = if e.length ≤ jj ∨ jj ∈ refs then .bad else if ap = true then match e[jj]? with
      | some (.own (.lst o)) => if o.length + (cs.map fun c => D.bl (isX x c)).length ≤ 4096 then hndl refs x r (e.set jj (.own (.lst (o ++ cs.map fun c => D.bl (isX x c))))) else .bad
      | _ => .bad
    else if (cs.map fun c => D.bl (isX x c)).length ≤ 4096 then hndl refs x r (e.set jj (.own (.lst (cs.map fun c => D.bl (isX x c))))) else .bad := rfl
theorem w_hnd {i : Nat} {a : Addr} {oe : Obj} {pn : List (Addr × Obj)} {x : Ex} {n : Str} (g : GoodS nm ca call j exR exC ro X) (hR : ∀ r ∈ G.R, r.1 ∈ refs) (hx : x ∈ exR) (hN : X.N[i]? = some n) (hl : X.env.scope.names.lookup n = some .local) (hok : okNm n = true) (hz : Zc (.ref (ca x)) none oe) (hf : ∃ vs, oe.data = .fields vs) :
    ∀ {h : List (Nat × Bool × List (Option Ex))} {su : List Stmt}, hndB X.N exC X.env.scope n i h su = true → PSs (X.suite a ((a, oe) :: pn)) su (tHn X.K G i a refs x h)
  | [], su, h => by
    unfold hndB at h
    obtain rfl := List.isEmpty_iff.mp h
    exact PSs.weak pss_nil fun Z σ H ⟨e, S, R, _, q⟩ => q σ S H (.refl S) R
  | (jj, ap, cs) :: r, su, h => by
    unfold hndB at h
    split at h
    · obtain ⟨h1, h2⟩ := and2 h
      have ih := w_hnd (pn := pn) (a := a) g hR hx hN hl hok hz hf h2
      split at h1
      · split at h1
        · obtain ⟨h1, h4⟩ := and2 h1
          obtain ⟨h1, h3⟩ := and2 h1
          have hji := of_decide_eq_true h3
          obtain ⟨y, py, rfl, hNj, hlj⟩ := stoB_name h1
          have atk : ∀ {σ : L2.St} {v : V}, At σ i a → At (σ.set jj (some v)) i a := fun {σ v} hat => by
            show (σ.set jj (some v))[i]? = _
            rw [List.getElem?_set_ne hji]; exact hat
          have fnX : (X.suite a ((a, oe) :: pn)).fn y = true := g.fn y
          cases ap with
          | false =>
            simp only [Bool.false_eq_true, if_false] at h4
            split at h4
            · have pa := is_all (pn := pn) (a := a) g hx hN hl hok hz hf h4
              refine PSs.weak (pss_cons (ps_set (X := X.suite a ((a, oe) :: pn)) g.nd hNj (locB_ok hlj) (pe_lst pa) rfl (.inl fnX)) ih) fun Z σ H ⟨e, S, R, hat, q⟩ => ?_
              rw [hndl_cons] at q
              by_cases hc : e.length ≤ jj ∨ jj ∈ refs
              · rw [if_pos hc] at q; exact (q : False).elim
              · rw [if_neg hc, if_neg Bool.false_ne_true] at q
                by_cases hc2 : (cs.map fun c => D.bl (isX x c)).length ≤ 4096
                · rw [if_pos hc2] at q
                  refine ⟨hat, by rw [List.length_map, line_eq]; rw [List.length_map] at hc2; omega, fun p np => ?_⟩
                  obtain ⟨R2, F⟩ := R.fresh (d := .lst (cs.map fun c => D.bl (isX x c))) (u := .lst (cs.map fun c => V.bl (isX x c))) np ⟨_, upd_same, boolsR⟩
                  exact ⟨_, S, R2.stoOwn F (by omega) (nr hR fun z => hc (.inr z)), atk hat, q⟩
                · rw [if_neg hc2] at q; exact (q : False).elim
            · cases h4
          | true =>
            simp only [if_true] at h4
            split at h4
            · obtain ⟨h4, h7⟩ := and2 h4
              obtain ⟨h5, h6⟩ := and2 h4
              obtain rfl := of_decide_eq_true h5
              obtain ⟨z, zp, rfl, hv⟩ := varB_pe h6
              split at h7
              · have pa := is_all (pn := pn) (a := a) g hx hN hl hok hz hf h7
                have pj : PE (X.suite a ((a, oe) :: pn)) (.Name z zp) (tVar jj) := pe_name (X := X.suite a ((a, oe) :: pn)) hv
                refine PSs.weak (pss_cons (ps_set (X := X.suite a ((a, oe) :: pn)) g.nd hNj (locB_ok hlj) (pe_op (op_bin .add) pj (pe_lst pa)) rfl (.inl fnX)) ih) fun Z σ H ⟨e, S, R, hat, q⟩ => ?_
                rw [hndl_cons] at q
                by_cases hc : e.length ≤ jj ∨ jj ∈ refs
                · rw [if_pos hc] at q; exact (q : False).elim
                · rw [if_neg hc, if_pos rfl] at q
                  split at q
                  · rename_i o ho
                    by_cases hc2 : o.length + (cs.map fun c => D.bl (isX x c)).length ≤ 4096
                    · rw [if_pos hc2] at q
                      have hp : pk e jj = some (.lst o) := by unfold pk; rw [ho]
                      obtain ⟨v, hv1, _⟩ := R.pick hp
                      refine ⟨v, hv1, hat, by rw [List.length_map, line_eq]; rw [List.length_map] at hc2; omega, fun p np => ?_⟩
                      obtain ⟨R2, F⟩ := R.fresh (d := .lst (cs.map fun c => D.bl (isX x c))) (u := .lst (cs.map fun c => V.bl (isX x c))) np ⟨_, upd_same, boolsR⟩
                      obtain ⟨S3, hs3, R3, r3⟩ := R2.frz F
                      obtain ⟨v', hv2, s2⟩ := R3.pick hp
                      rw [hv1] at hv2; cases hv2
                      refine ⟨S3, _, _, R3.sub, s2, r3.see R3.sub, ?_⟩
                      have eb : binD .add (.lst o) (.lst (cs.map fun c => D.bl (isX x c))) = some (.lst (o ++ cs.map fun c => D.bl (isX x c))) := by
                        show (if _ then _ else _) = _
                        rw [if_pos (by omega)]
                      rw [eb]
                      intro w H' nw
                      obtain ⟨S4, hs4, R4, rv⟩ := R3.made nw
                      obtain ⟨l4, rfl, F4⟩ := rv
                      exact ⟨_, S4, R4.stoOwn F4 (by omega) (nr hR fun z => hc (.inr z)), atk hat, PstH.mono (hs3.trans hs4) q⟩
                    · rw [if_neg hc2] at q; exact (q : False).elim
                  · exact (q : False).elim
              · cases h7
            · cases h4
        · cases h1
      · cases h1
    · cases h
theorem w_try {i : Nat} {xs : List Ex} {b : Ss} {h : List (Nat × Bool × List (Option Ex))} {x : Stmt} (g : GoodS nm ca call j exR exC ro X) (tk : Takes X W) (hR : ∀ r ∈ G.R, r.1 ∈ refs) (ih : IHb nm ca call j exR exC ro n) (hn : sizeOf (S.tryk i xs b h) ≤ n) (hm : mS nm X.N exR exC X.env.scope (.tryk i xs b h) x = true) :
    PS X x (tS X.K ca G call refs W (.tryk i xs b h)) := by
  unfold mS at hm
  split at hm
  · rename_i body hs orelse fin pos
    obtain ⟨hm, h4⟩ := and2 hm
    obtain ⟨hm, h3⟩ := and2 hm
    obtain ⟨h1, h2⟩ := and2 hm
    obtain rfl := List.isEmpty_iff.mp h1
    obtain rfl := List.isEmpty_iff.mp h2
    split at h4
    · rename_i r np nn b0 su p2
      obtain ⟨h4, k7⟩ := and2 h4
      obtain ⟨h4, k6⟩ := and2 h4
      obtain ⟨h4, k5⟩ := and2 h4
      obtain ⟨h4, k4⟩ := and2 h4
      obtain ⟨h4, k3⟩ := and2 h4
      obtain ⟨h4, k2⟩ := and2 h4
      obtain ⟨h4, k1⟩ := and2 h4
      have er := of_decide_eq_true h4
      subst er
      have hN := of_decide_eq_true k2
      have hl := of_decide_eq_true k3
      have hg : Gl X "RoofError" := by
        unfold glB at k1
        split at k1
        · assumption
        · cases k1
      have hne : exR ≠ [] := fun z => by subst z; cases k6
      have hx : ∀ x ∈ xs, x ∈ exR := fun x hx => of_decide_eq_true (List.all_eq_true.mp k7 x hx)
      refine PS.weak (ps_try_as (Wout := W) (tb := fun W' => tSs X.K ca G call refs W' b) (ts := fun a cls d => fun Z σ H => ∃ x ∈ xs, cls = .ref (ca x) ∧ d = none ∧ tHn X.K G i a refs x h Z σ H) g.hs g.hf g.nd hN hl ⟨hg, by decide, .inl (g.ro hne)⟩ tk
        (fun W' pn xe tk' po => ih b (by simp at hn; omega) (X.tr pn xe) G refs W' ⟨⟨g.calm, g.nd, g.room, g.calls, g.free⟩, po, g.hs, g.hf, g.fn, g.kind, g.ex, g.exc, g.ro⟩ tk' hR _ h3)
        (fun a oe cls d pn hz hf => ⟨fun pins s σ H Z I ⟨x, hxs, hc, hd, q⟩ => ?_⟩)) fun Z σ H ⟨e, S, R, q⟩ => ⟨e, S, R, ?_⟩
      · subst hc hd
        exact (w_hnd g hR (hx x hxs) hN hl k4 hz hf k5).run pins s σ H Z I q
      · simp only [evS] at q
        split at q
        · rename_i y e1 hb
          rw [hb]
          split at q
          · exact q.elim
          · rename_i hc
            have hc1 : i < e1.length := by
              rcases Nat.lt_or_ge i e1.length with w | w
              · exact w
              · exact absurd (.inl w) hc
            have hc2 : y ∈ xs := Classical.byContradiction fun w => hc (.inr (.inl w))
            have hc3 : i ∉ refs := fun w => hc (.inr (.inr w))
            intro σ' S' H' hs' R'
            refine ⟨true, (g.ex y (hx y hc2)).root, fun _ a ha => ⟨y, hc2, rfl, rfl, e1.set i .emp, S', R'.stoAny (nr hR hc3), ?_, ?_⟩, fun z => nomatch z⟩
            · show (σ'.set i _)[i]? = _
              rw [List.getElem?_set_self (by rw [← R'.len]; exact hc1)]
            · cases hh : hndl refs y h (e1.set i .emp) with
              | next e2 =>
                rw [hh] at q
                exact fun σ2 S2 H2 hs2 R2 => q (σ2.set i none) S2 H2 (hs'.trans hs2) (R2.stoAny (nr hR hc3))
              | ret fr d e2 =>
                have : ∀ {h : List (Nat × Bool × List (Option Ex))} {e : Env}, hndl refs y h e ≠ .ret fr d e2 := by
                  intro h
                  induction h with
                  | nil => intro e z; cases z
                  | cons p r ihh =>
                    intro e z
                    obtain ⟨jj, ap, cs⟩ := p
                    rw [hndl_cons] at z
                    split at z
                    · cases z
                    · split at z
                      · split at z
                        · split at z
                          · exact ihh z
                          · cases z
                        · cases z
                      · split at z
                        · exact ihh z
                        · cases z
                exact absurd hh this
              | exc x2 e2 =>
                have : ∀ {h : List (Nat × Bool × List (Option Ex))} {e : Env}, hndl refs y h e ≠ .exc x2 e2 := by
                  intro h
                  induction h with
                  | nil => intro e z; cases z
                  | cons p r ihh =>
                    intro e z
                    obtain ⟨jj, ap, cs⟩ := p
                    rw [hndl_cons] at z
                    split at z
                    · cases z
                    · split at z
                      · split at z
                        · split at z
                          · exact ihh z
                          · cases z
                        · cases z
                      · split at z
                        · exact ihh z
                        · cases z
                exact absurd hh this
              | bad => rw [hh] at q; exact q.elim
        · rename_i r hr hh
          cases hb : evSs call b refs e with
          | exc y e1 => exact absurd hb (hh y e1)
          | next e1 => rw [hb] at q; exact q
          | ret fr d e1 => rw [hb] at q; exact q
          | bad => rw [hb] at q; exact q
    · cases h4
  · cases hm
theorem main_b : ∀ n, IHb nm ca call j exR exC ro n := by
  intro n
  induction n with
  | zero => intro b hb; exact absurd hb (Nat.not_lt_zero _)
  | succ n ih =>
    intro b hb X G refs W g tk hR l h
    cases b with
    | nil =>
      unfold mSs at h
      obtain rfl := List.isEmpty_iff.mp h
      exact PSs.weak pss_nil fun Z σ H ⟨e, S, R, q⟩ => q σ S H (.refl S) R
    | cons s r =>
      unfold mSs at h
      split at h
      · rename_i y ys
        obtain ⟨h1, h2⟩ := and2 h
        have pr := ih r (by simp at hb; omega) X G refs W g tk hR _ h2
        have hn : sizeOf s ≤ n := by simp at hb; omega
        have ps : PS X y (tS X.K ca G call refs W s) := by
          cases s with
          | asg i a => exact w_asg g tk hR h1
          | unp ts a => exact w_unp g tk hR h1
          | par i k a b => exact w_par g tk hR h1
          | seti i k a => exact w_seti g tk hR h1
          | app i a => exact w_app g tk hR h1
          | ins i k a => exact w_ins g tk hR h1
          | pop i => exact w_pop g h1
          | popk i k => unfold mS at h1; cases h1
          | xpr a => exact w_xpr g tk hR h1
          | ret a => exact w_ret g tk hR h1
          | ret0 => exact w_ret0 h1
          | ifs c a b => exact w_ifs g tk hR ih hn h1
          | loop tp ts src b => exact w_loop g tk hR ih hn h1
          | whl fuel c b => exact w_whl g tk hR ih hn h1
          | rse x => exact w_rse g tk h1
          | tryk i xs b h => exact w_try g tk hR ih hn h1
        refine PSs.weak (pss_cons ps pr) fun Z σ H ⟨e, S, R, q⟩ => ⟨e, S, R, ?_⟩
        simp only [evSs] at q
        exact PstS.then q
      · cases h
end
end Vm

/-! Vm1: defs. -/
namespace Vm
open PySem PySem.Spec PyProof.Rows L2
/-- a def, its text and its program -/
structure DR where
  st : Stmt
  N : List Str
  ps : List Str
  fn : Fn
def chkD (nm : Nat → Str) (exR exC : List Ex) (r : DR) : Bool := C8.scC r.N r.ps (defScope r.st) && mSs nm r.N exR exC (defScope r.st) r.fn.body (defBody r.st) && decide (r.ps.length = r.fn.ps.length) && decide (r.N.length = r.fn.n)
section
variable {K : PySem.W.Frag} {S H S' H' : Hp} {e : Env} {σ : L2.St}
theorem Args.length : ∀ {as : List AV} {vs : List V} {B C : List Addr}, Args K S H as vs B C → as.length = vs.length
  | _, _, _, _, .nil => rfl
  | _, _, _, _, .val _ h => congrArg Nat.succ (Args.length h)
  | _, _, _, _, .own _ h => congrArg Nat.succ (Args.length h)
  | _, _, _, _, .give _ h => congrArg Nat.succ (Args.length h)
/-- the names at the entry -/
theorem params_ok : ∀ {ps : List PM} {as : List AV} {vs : List V} {B C : List Addr} {e : Env}, Args K S H as vs B C → params ps as = some e → (B ++ C).Nodup →
    e.length = vs.length ∧ as.length = ps.length ∧ (∀ (i : Nat) (d : D), e[i]? = some (.val d) → ∃ v, vs[i]? = some v ∧ Rep K S v d) ∧ (∀ (i : Nat) (d : D), IsOwn e i d → ∃ l, vs[i]? = some (.ref l) ∧ Own K S H l d ∧ l ∈ B ++ C) ∧
    (∀ (i k : Nat) (d d' : D) (l : Addr), IsOwn e i d → IsOwn e k d' → vs[i]? = some (.ref l) → vs[k]? = some (.ref l) → i = k) := by
  intro ps
  induction ps with
  | nil =>
    intro as vs B C e ha hp hn
    cases as with
    | nil =>
      cases hp; cases ha
      refine ⟨rfl, rfl, fun i d h => by simp at h, fun i d h => ?_, fun i k d d' l h => ?_⟩
      · rcases h with h | h <;> simp at h
      · rcases h with h | h <;> simp at h
    | cons a as => cases hp
  | cons p ps ih =>
    intro as vs B C e ha hp hn
    have own0 : ∀ {s : Slot} {e : Env} {i : Nat} {d : D}, IsOwn (s :: e) (i + 1) d → IsOwn e i d := fun {s e i d} h => by
      rcases h with h | h
      · exact .inl (by simpa using h)
      · exact .inr (by simpa using h)
    cases ha with
    | nil => cases p <;> cases hp
    | @val d v as vs B C r ha =>
      cases p <;> first | (cases hp; done) | skip
      have hp : (params ps as).map (fun e => Slot.val d :: e) = some e := hp
      simp only [Option.map_eq_some_iff] at hp
      obtain ⟨e, hp2, rfl⟩ := hp
      obtain ⟨h1, h2, h3, h4, h5⟩ := ih ha hp2 hn
      refine ⟨by simp [h1], by simp [h2], fun i d' h => ?_, fun i d' h => ?_, fun i k d1 d2 l o1 o2 a1 a2 => ?_⟩
      · cases i with
        | zero => simp at h; subst h; exact ⟨v, rfl, r⟩
        | succ i => exact h3 i d' (by simpa using h)
      · cases i with
        | zero => rcases h with h | h <;> simp at h
        | succ i => exact h4 i d' (own0 h)
      · cases i with
        | zero => rcases o1 with h | h <;> simp at h
        | succ i => cases k with
          | zero => rcases o2 with h | h <;> simp at h
          | succ k => rw [h5 i k d1 d2 l (own0 o1) (own0 o2) (by simpa using a1) (by simpa using a2)]
    | @own d l0 as vs B C o ha =>
      cases p <;> first | (cases hp; done) | skip
      have hp : (params ps as).map (fun e => Slot.own d :: e) = some e := hp
      simp only [Option.map_eq_some_iff] at hp
      obtain ⟨e, hp2, rfl⟩ := hp
      have hn1 := List.nodup_cons.mp (show (l0 :: (B ++ C)).Nodup from hn)
      obtain ⟨h1, h2, h3, h4, h5⟩ := ih ha hp2 hn1.2
      refine ⟨by simp [h1], by simp [h2], fun i d' h => ?_, fun i d' h => ?_, fun i k d1 d2 l o1 o2 a1 a2 => ?_⟩
      · cases i with
        | zero => simp at h
        | succ i => exact h3 i d' (by simpa using h)
      · cases i with
        | zero =>
          rcases h with h | h
          · simp at h; subst h; exact ⟨l0, rfl, o, List.mem_cons_self⟩
          · simp at h
        | succ i =>
          obtain ⟨l, x1, x2, x3⟩ := h4 i d' (own0 h)
          exact ⟨l, x1, x2, List.mem_cons_of_mem _ x3⟩
      · cases i with
        | zero =>
          cases k with
          | zero => rfl
          | succ k =>
            obtain ⟨l', x1, x2, x3⟩ := h4 k d2 (own0 o2)
            have a2 : vs[k]? = some (.ref l) := by simpa using a2
            rw [x1] at a2; cases a2
            simp at a1
            subst a1
            exact absurd x3 hn1.1
        | succ i => cases k with
          | zero =>
            obtain ⟨l', x1, x2, x3⟩ := h4 i d1 (own0 o1)
            have a1 : vs[i]? = some (.ref l) := by simpa using a1
            rw [x1] at a1; cases a1
            simp at a2
            subst a2
            exact absurd x3 hn1.1
          | succ k => rw [h5 i k d1 d2 l (own0 o1) (own0 o2) (by simpa using a1) (by simpa using a2)]
    | @give d l0 as vs B C o ha =>
      cases p <;> first | (cases hp; done) | skip
      have hp : (params ps as).map (fun e => Slot.own d :: e) = some e := hp
      simp only [Option.map_eq_some_iff] at hp
      obtain ⟨e, hp2, rfl⟩ := hp
      have hn1 := List.nodup_cons.mp ((List.perm_middle.nodup_iff).mp hn)
      obtain ⟨h1, h2, h3, h4, h5⟩ := ih ha hp2 hn1.2
      have mem : ∀ {x : Addr}, x ∈ B ++ C → x ∈ B ++ l0 :: C := fun {x} h => by
        rcases List.mem_append.mp h with h | h
        · exact List.mem_append_left _ h
        · exact List.mem_append_right _ (List.mem_cons_of_mem _ h)
      refine ⟨by simp [h1], by simp [h2], fun i d' h => ?_, fun i d' h => ?_, fun i k d1 d2 l o1 o2 a1 a2 => ?_⟩
      · cases i with
        | zero => simp at h
        | succ i => exact h3 i d' (by simpa using h)
      · cases i with
        | zero =>
          rcases h with h | h
          · simp at h; subst h; exact ⟨l0, rfl, o, List.mem_append_right _ List.mem_cons_self⟩
          · simp at h
        | succ i =>
          obtain ⟨l, x1, x2, x3⟩ := h4 i d' (own0 h)
          exact ⟨l, x1, x2, mem x3⟩
      · cases i with
        | zero =>
          cases k with
          | zero => rfl
          | succ k =>
            obtain ⟨l', x1, x2, x3⟩ := h4 k d2 (own0 o2)
            have a2 : vs[k]? = some (.ref l) := by simpa using a2
            rw [x1] at a2; cases a2
            simp at a1
            subst a1
            exact absurd x3 hn1.1
        | succ i => cases k with
          | zero =>
            obtain ⟨l', x1, x2, x3⟩ := h4 i d1 (own0 o1)
            have a1 : vs[i]? = some (.ref l) := by simpa using a1
            rw [x1] at a1; cases a1
            simp at a2
            subst a2
            exact absurd x3 hn1.1
          | succ k => rw [h5 i k d1 d2 l (own0 o1) (own0 o2) (by simpa using a1) (by simpa using a2)]
/-- the names that are given to be changed, with their addresses -/
theorem refs_ok : ∀ {ps : List PM} {as : List AV} {vs : List V} {B C : List Addr} {e : Env} (k : Nat), Args K S H as vs B C → params ps as = some e →
    ∃ R : List (Nat × Addr), R.map (·.1) = refsOf k ps ∧ R.map (·.2) = B ∧ ∀ r ∈ R, k ≤ r.1 ∧ vs[r.1 - k]? = some (.ref r.2) := by
  intro ps
  induction ps with
  | nil =>
    intro as vs B C e k ha hp
    cases as with
    | nil => cases hp; cases ha; exact ⟨[], rfl, rfl, fun r h => by simp at h⟩
    | cons a as => cases hp
  | cons p ps ih =>
    intro as vs B C e k ha hp
    have up : ∀ {R : List (Nat × Addr)} {v : V} {vs : List V}, (∀ r ∈ R, k + 1 ≤ r.1 ∧ vs[r.1 - (k + 1)]? = some (.ref r.2)) → ∀ r ∈ R, k ≤ r.1 ∧ (v :: vs)[r.1 - k]? = some (.ref r.2) := fun {R v vs} h r hr => by
      obtain ⟨h1, h2⟩ := h r hr
      refine ⟨by omega, ?_⟩
      have : r.1 - k = (r.1 - (k + 1)) + 1 := by omega
      rw [this, List.getElem?_cons_succ]; exact h2
    cases ha with
    | nil => cases p <;> cases hp
    | @val d v as vs B C r ha =>
      cases p <;> first | (cases hp; done) | skip
      have hp : (params ps as).map (fun e => Slot.val d :: e) = some e := hp
      simp only [Option.map_eq_some_iff] at hp
      obtain ⟨e, hp2, rfl⟩ := hp
      obtain ⟨R, h1, h2, h3⟩ := ih (k + 1) ha hp2
      exact ⟨R, h1, h2, up h3⟩
    | @own d l0 as vs B C o ha =>
      cases p <;> first | (cases hp; done) | skip
      have hp : (params ps as).map (fun e => Slot.own d :: e) = some e := hp
      simp only [Option.map_eq_some_iff] at hp
      obtain ⟨e, hp2, rfl⟩ := hp
      obtain ⟨R, h1, h2, h3⟩ := ih (k + 1) ha hp2
      refine ⟨(k, l0) :: R, by rw [List.map_cons, h1]; rfl, by rw [List.map_cons, h2], fun r hr => ?_⟩
      rcases List.mem_cons.mp hr with rfl | hr
      · exact ⟨Nat.le_refl _, by simp⟩
      · exact up h3 r hr
    | @give d l0 as vs B C o ha =>
      cases p <;> first | (cases hp; done) | skip
      have hp : (params ps as).map (fun e => Slot.own d :: e) = some e := hp
      simp only [Option.map_eq_some_iff] at hp
      obtain ⟨e, hp2, rfl⟩ := hp
      obtain ⟨R, h1, h2, h3⟩ := ih (k + 1) ha hp2
      exact ⟨R, h1, h2, up h3⟩
/-- the changed lists at the end -/
theorem outs_ok {G : Gh} (Rl : Rel K G [] e σ S H) : ∀ {R : List (Nat × Addr)} {os : List D}, (∀ r ∈ R, At σ r.1 r.2) → outs e (R.map (·.1)) = some os → Outs K S H (R.map (·.2)) os ∧ ∀ l ∈ R.map (·.2), ∃ i d, IsOwn e i d ∧ At σ i l
  | [], os, hr, ho => by
    cases ho
    exact ⟨.nil, fun l h => by simp at h⟩
  | r :: R, os, hr, ho => by
    have ho : (getO e r.1).bind (fun d => (outs e (R.map (·.1))).map (d :: ·)) = some os := ho
    simp only [Option.bind_eq_some_iff, Option.map_eq_some_iff] at ho
    obtain ⟨d, hd, os, ho2, rfl⟩ := ho
    obtain ⟨h1, h2⟩ := outs_ok Rl (R := R) (fun r h => hr r (List.mem_cons_of_mem _ h)) ho2
    have own : IsOwn e r.1 d := by
      unfold getO at hd
      split at hd
      · rename_i h; cases hd; exact .inl h
      · rename_i h; cases hd; exact .inr h
      · cases hd
    obtain ⟨l, x1, x2, _⟩ := Rl.own _ _ own
    have := at_inj x1 (hr r List.mem_cons_self)
    subst this
    refine ⟨.cons x2 h1, fun l hl => ?_⟩
    rcases List.mem_cons.mp hl with rfl | hl
    · exact ⟨r.1, d, own, hr r List.mem_cons_self⟩
    · exact h2 l hl
theorem start_get {N : List Str} {vs : List V} {i : Nat} : (L2.start N vs)[i]? = if i < vs.length then some vs[i]? else (if i < vs.length + (N.length - vs.length) then some none else none) := by
  unfold L2.start
  by_cases h : i < vs.length
  · rw [if_pos h, List.getElem?_append_left (by simpa using h), List.getElem?_map]
    rw [List.getElem?_eq_getElem h]; rfl
  · rw [if_neg h, List.getElem?_append_right (by simpa using h), List.getElem?_replicate, List.length_map]
    split <;> split <;> first | rfl | omega
end
section
variable {P : Program} {w : World} {K : PySem.W.Frag} {mg : Str → Option Value} {base : Heap} {nm : Nat → Str} {ca : Ex → Addr} {exR exC : List Ex} {ro : Addr} {tab : Nat → Option Fn} {nmx : Str}
theorem fn_ok {call : CallT} {k : Nat} {r : DR} {a : Addr} {fd : FuncData} (hc : chkD nm exR exC r = true) (F : FunD K nmx nmx (defArgs r.st) (defBody r.st) (defScope r.st) [] [] a fd) (cs : CallsOk P w K mg base nm ca call k)
    (free : ∀ x ∈ freeNames, mg x = none) (ex : ∀ x ∈ exR, ExOk K mg ca ro exC x) (exc : ∀ x ∈ exC, mg x.name = some (.ref (ca x))) (hro : exR ≠ [] → mg "RoofError" = some (.ref ro)) :
    FnOk P w K mg base (L2.CX P w) (k + 1) a fd r.ps (fun vs H Q E => ∃ S as B C, Sub S H ∧ Args K S H as vs B C ∧ (B ++ C).Nodup ∧ PstF K ca S H B C Q E (runFn call r.fn as)) := by
  unfold chkD at hc
  obtain ⟨hc, h4⟩ := and2 hc
  obtain ⟨hc, h3⟩ := and2 hc
  obtain ⟨h1, h2⟩ := and2 hc
  have S0 := C8.fnScope_by h1
  have hlen := of_decide_eq_true h3
  have hN := of_decide_eq_true h4
  have lens : ∀ {vs : List V} {H : Hp} {Q : VK} {E : XK} {S : Hp} {as : List AV} {B C : List Addr}, Args K S H as vs B C → (B ++ C).Nodup → PstF K ca S H B C Q E (runFn call r.fn as) → ∃ e, params r.fn.ps as = some e ∧ e.length = vs.length ∧ vs.length = r.ps.length := fun {vs H Q E S as B C} ha hn q => by
    unfold runFn at q
    cases hp : params r.fn.ps as with
    | none => rw [hp] at q; exact q.elim
    | some e =>
      obtain ⟨x1, x2, _⟩ := params_ok ha hp hn
      have : as.length = vs.length := ha.length
      exact ⟨e, rfl, x1, by rw [← this, x2, hlen]⟩
  refine F.ok S0 (fun vs H Q E ⟨S, as, B, C, hs, ha, hn, q⟩ => (lens ha hn q).elim fun e z => z.2.2) fun cdv A outer s H vs Q E hr ⟨S, as, B, C, hs, ha, hn, q⟩ => ?_
  obtain ⟨e, hp, hl1, hl2⟩ := lens ha hn q
  obtain ⟨_, _, pv, po, psep⟩ := params_ok ha hp hn
  obtain ⟨R, r1, r2, r3⟩ := refs_ok 0 ha hp
  have q0 := q
  unfold runFn at q
  rw [hp] at q
  dsimp only at q
  have g : GoodS nm ca call k exR exC ro (cxOf (L2.CX P w) P w K mg base r.N nmx (defScope r.st) a cdv A outer s H E) := ⟨⟨rfl, S0.nd, hr, cs, free⟩, passes_of rfl, rfl, rfl, fun _ => rfl, S0.kind, ex, exc, hro⟩
  have tk : Takes (cxOf (L2.CX P w) P w K mg base r.N nmx (defScope r.st) a cdv A outer s H E) (fun cls d _ H => E cls d H) := takes_of rfl rfl rfl rfl
  let G : Gh := ⟨H, S, B ++ C, R⟩
  have hR : ∀ x ∈ G.R, x.1 ∈ refsOf 0 r.fn.ps := fun x hx => by rw [← r1]; exact List.mem_map.mpr ⟨x, hx, rfl⟩
  refine ⟨tSs K ca G call (refsOf 0 r.fn.ps) (fun cls d _ H => E cls d H) r.fn.body, main_b _ r.fn.body (Nat.lt_succ_self _) _ G _ _ g tk hR _ h2, e ++ List.replicate (r.fn.n - e.length) .emp, S, ?_, ?_⟩
  · have hNl : r.N.length = r.fn.n := hN
    have hle : vs.length ≤ r.N.length := by rw [hl2]; have := congrArg List.length S0.pre; rw [List.length_take] at this; omega
    have get : ∀ {i : Nat} {s : Slot}, (e ++ List.replicate (r.fn.n - e.length) Slot.emp)[i]? = some s → s ≠ .emp → e[i]? = some s := fun {i s} h hne => by
      by_cases hi : i < e.length
      · rwa [List.getElem?_append_left hi] at h
      · rw [List.getElem?_append_right (by omega), List.getElem?_replicate] at h
        split at h
        · cases h; exact absurd rfl hne
        · cases h
    have own : ∀ {i : Nat} {d : D}, IsOwn (e ++ List.replicate (r.fn.n - e.length) Slot.emp) i d → IsOwn e i d := fun {i d} h => by
      rcases h with h | h
      · exact .inl (get h (fun z => nomatch z))
      · exact .inr (get h (fun z => nomatch z))
    have at1 : ∀ {i : Nat} {v : V}, vs[i]? = some v → (L2.start r.N vs)[i]? = some (some v) := fun {i v} h => by
      have hi := (List.getElem?_eq_some_iff.mp h).1
      rw [start_get, if_pos hi, h]
    have at2 : ∀ {i : Nat} {v : V}, (L2.start r.N vs)[i]? = some (some v) → vs[i]? = some v := fun {i v} h => by
      rw [start_get] at h
      split at h
      · exact Option.some.inj h
      · split at h <;> cases h
    exact {
      sub := hs
      fr := fun b o h _ => h
      s0 := .refl S
      new := fun b o h _ => .inl (by show S b ≠ none; rw [h]; exact fun z => nomatch z)
      len := by rw [List.length_append, List.length_replicate, hl1]; unfold L2.start; rw [List.length_append, List.length_map, List.length_replicate]; omega
      val := fun i d h => by
        obtain ⟨v, x1, x2⟩ := pv i d (get h (fun z => nomatch z))
        exact ⟨v, at1 x1, x2⟩
      own := fun i d h => by
        obtain ⟨l, x1, x2, x3⟩ := po i d (own h)
        exact ⟨l, at1 x1, x2, .inr x3⟩
      sep := fun i k d d' l o1 o2 a1 a2 => psep i k d d' l (own o1) (own o2) (at2 a1) (at2 a2)
      pen := fun q hq => nomatch hq
      pnd := .nil
      refs := fun x hx => at1 (r3 x hx).2 }
  · have after : ∀ {e' : Env} {σ' : L2.St} {S' H' : Hp} {os : List D}, Rel K G [] e' σ' S' H' → outs e' (refsOf 0 r.fn.ps) = some os → After K S H B C S' H' os ∧ ∀ l ∈ B, ∃ i d, IsOwn e' i d ∧ At σ' i l := fun {e' σ' S' H' os} R' ho => by
      rw [← r1] at ho
      obtain ⟨o1, o2⟩ := outs_ok R' R'.refs ho
      rw [r2] at o1 o2
      refine ⟨⟨R'.s0, R'.sub, fun b o h hb hc => R'.fr b o h (fun z => (List.mem_append.mp z).elim hb hc), fun b o h mu => ?_, o1⟩, o2⟩
      rcases R'.new b o h mu with z | z | z
      · exact .inl z
      · exact .inr (.inl z)
      · rcases List.mem_append.mp z with z | z
        · obtain ⟨i, d, x1, x2⟩ := o2 b z
          obtain ⟨l, y1, y2, _⟩ := R'.own i d x1
          have := at_inj x2 y1
          subst this
          rw [y2.1] at h; cases h
        · exact .inr (.inr z)
    cases hb : evSs call r.fn.body (refsOf 0 r.fn.ps) (e ++ List.replicate (r.fn.n - e.length) .emp) with
    | bad => rw [hb] at q; exact q.elim
    | next e' =>
      rw [hb] at q
      dsimp only at q
      cases ho : outs e' (refsOf 0 r.fn.ps) with
      | none => rw [ho] at q; exact q.elim
      | some os =>
        rw [ho] at q
        exact fun σ' S' H' hs' R' => q .non S' H' (after R' ho).1 .non
    | ret fr d e' =>
      rw [hb] at q
      dsimp only at q
      cases ho : outs e' (refsOf 0 r.fn.ps) with
      | none => rw [ho] at q; exact q.elim
      | some os =>
        rw [ho] at q
        intro v σ' S' H' hs' R' rv
        obtain ⟨A1, A2⟩ := after R' ho
        refine q v S' H' A1 ?_
        cases fr with
        | false => exact rv
        | true =>
          obtain ⟨l, rfl, Fr⟩ := rv
          have hB : l ∉ B := fun z => by
            obtain ⟨i, d', x1, x2⟩ := A2 l z
            exact Fr.noe i d' x1 x2
          refine ⟨l, rfl, Fr.own, hB, ?_⟩
          rcases Fr.gh with z | z
          · exact .inl z
          · rcases List.mem_append.mp z with z | z
            · exact absurd z hB
            · exact .inr z
    | exc x e' =>
      rw [hb] at q
      dsimp only at q
      cases ho : outs e' (refsOf 0 r.fn.ps) with
      | none => rw [ho] at q; exact q.elim
      | some os =>
        rw [ho] at q
        exact fun σ' S' H' hs' R' => q S' H' (after R' ho).1
/-- every def keeps the interpreter's promise -/
theorem calls_ok (hrow : ∀ f, nm f ≠ "" → ∃ r : DR, tab f = some r.fn ∧ chkD nm exR exC r = true ∧ ∃ (a : Addr) (fd : FuncData), mg (nm f) = some (.ref a) ∧ FunD K (nm f) (nm f) (defArgs r.st) (defBody r.st) (defScope r.st) [] [] a fd ∧ Binds K fd r.ps [])
    (free : ∀ x ∈ freeNames, mg x = none) (ex : ∀ x ∈ exR, ExOk K mg ca ro exC x) (exc : ∀ x ∈ exC, mg x.name = some (.ref (ca x))) (hro : exR ≠ [] → mg "RoofError" = some (.ref ro)) : ∀ k, CallsOk P w K mg base nm ca (run tab k) k := by
  intro k
  induction k with
  | zero =>
    intro f hf
    obtain ⟨r, _, _, a, fd, m, F, b⟩ := hrow f hf
    exact ⟨a, fd, r.ps, m, F.kp, b, ⟨fun vs H Q E ⟨_, _, _, _, _, _, _, q⟩ => q.elim, fun _ _ _ _ _ _ _ _ _ _ _ _ _ ⟨_, _, _, _, _, _, _, q⟩ => q.elim⟩⟩
  | succ k ih =>
    intro f hf
    obtain ⟨r, ht, hc, a, fd, m, F, b⟩ := hrow f hf
    refine ⟨a, fd, r.ps, m, F.kp, b, (fn_ok hc F ih free ex exc hro).imp fun vs H Q E ⟨S, as, B, C, hs, ha, hn, q⟩ => ⟨S, as, B, C, hs, ha, hn, ?_⟩⟩
    have e : run tab (k + 1) f as = runFn (run tab k) r.fn as := by
      show (match tab f with | some fn => runFn (run tab k) fn as | none => .bad) = _
      rw [ht]
    rw [e] at q
    exact q
end
end Vm

/-! Vm2: the head's facts for the interpreter; the end. -/
namespace Vm
open PySem PySem.Spec PyProof.Rows L2
structure LRow where
  ix : Nat
  name : Str
  i : Nat
  N : List Str
  ps : List Str
  fn : Fn
def LRow.dd (top : Nat → Stmt) (r : LRow) : He.DefD := ⟨(r.name, none), r.name, r.name, defArgs (top r.i), defBody (top r.i), defScope (top r.i), [], []⟩
def LRow.dr (top : Nat → Stmt) (r : LRow) : DR := ⟨top r.i, r.N, r.ps, r.fn⟩
def lkUp (dl : List LRow) (f : Nat) : Option LRow := dl.find? fun r => r.ix == f
def nmOf (dl : List LRow) (f : Nat) : Str := match lkUp dl f with
  | some r => r.name
  | none => ""
def tabOf (dl : List LRow) (f : Nat) : Option Fn := match lkUp dl f with
  | some r => some r.fn
  | none => none
def BindsP (top : Nat → Stmt) (r : LRow) : Prop := ∀ (kV doc pm : Value) (an : Option Addr) (cdv ct : Value) (us : List Value), us.length = r.ps.length →
  bindArgs (PySem.W.fnOf r.name r.name (defArgs (top r.i)) (defBody (top r.i)) (defScope (top r.i)) .none kV doc pm an cdv ct) ⟨us, []⟩ = pure (r.ps.zip us)
inductive AllB (top : Nat → Stmt) : List LRow → Prop
  | nil : AllB top []
  | cons {r : LRow} {l : List LRow} : BindsP top r → AllB top l → AllB top (r :: l)
theorem AllB.get {top : Nat → Stmt} : ∀ {l : List LRow} {r : LRow}, AllB top l → r ∈ l → BindsP top r
  | _, _, .cons b t, h => by
    rcases List.mem_cons.mp h with rfl | h
    · exact b
    · exact t.get h
theorem AllB.append {top : Nat → Stmt} : ∀ {l m : List LRow}, AllB top l → AllB top m → AllB top (l ++ m)
  | _, _, .nil, h => h
  | _, _, .cons b t, h => .cons b (t.append h)
def excB (K : PySem.W.Frag) (exC : List Ex) (x : Ex) : Bool :=
  (He.Fa.glo x.name).ok K && ((He.Fa.exc x.name).ok K && ((He.Fa.exm x.name "RoofError" true).ok K &&
  (He.eqO (PySem.W.findIn K (.ref (He.ga K x.name)) "__getattribute__") (some (some (.builtin "BaseException.__getattribute__"))) &&
  (He.eqO (PySem.W.findIn K (.ref (He.ga K x.name)) "__getattr__") (some none) &&
  (PySem.W.hasDictIn K (He.ga K x.name) &&
  (He.eqO (PySem.W.findIn K (.ref (He.ga K x.name)) "__class__") (some (some (.builtin "object.__class__"))) &&
  (He.eqO (PySem.W.specialIn K (.builtin "object.__class__") "__get__") (some (some (.builtin "getset_descriptor.__get__"))) &&
  (decide (PySem.W.takesIn K (.builtin "object.__class__") = some true) &&
  (decide (PySem.W.mroIn K (He.ga K x.name) (.type "object") = some true) &&
  (decide (PySem.W.kitOne K (.ref (He.ga K x.name)) (.type "ValueError") = some true) &&
  exC.all fun y => decide (PySem.W.kitOne K (.ref (He.ga K x.name)) (.ref (He.ga K y.name)) = some (decide (x = y)))))))))))))
def mine (dl : List LRow) (exR exC : List Ex) (K : PySem.W.Frag) : Bool :=
  (dl.all fun r => (He.Fa.glo r.name).ok K) && ((freeNames.all fun x => (He.Fa.free x).ok K) && ((exC.all fun y => (He.Fa.glo y.name).ok K) && ((exR.all fun x => excB K exC x) && (exR.isEmpty || (He.Fa.glo "RoofError").ok K))))
def obsV (m : PySem.W.Frag → Bool) (fn : List He.DefD) (K : PySem.W.Frag) : He.AlD := (m K && (He.obsD [] fn K).1, (He.obsD [] fn K).2)
def obsVG (n : Nat) (m : PySem.W.Frag → Bool) (fn : List He.DefD) (g : Addr → Option Obj) : He.AlD := obsV m fn (He.frG g (He.asD g n))
def hookV (n : Nat) (m : PySem.W.Frag → Bool) (fn : List He.DefD) : PySem.W.Hook where
  α := He.AlD
  obs := fun s => obsVG n m fn s.heap.get?
  val := fun _ => He.valD fn
  says := fun _ h => ∃ K : PySem.W.Frag, K.In h ∧ obsV m fn K = He.valD fn
  of := fun _ _ e => ⟨_, He.frG_in, e⟩
  keeps := fun _ _ _ ⟨K, hK, c⟩ k => ⟨K, PySem.W.Frag.In.keeps hK k, c⟩
theorem obsVG_eq {n : Nat} {m : PySem.W.Frag → Bool} {fn : List He.DefD} {g : Addr → Option Obj} {s : Shared} (h : ∀ a, g a = s.heap.get? a) : obsVG n m fn g = (hookV n m fn).obs s := by
  have e : g = s.heap.get? := funext h
  rw [e] <;> rfl
theorem obsV_of {m : PySem.W.Frag → Bool} {fn : List He.DefD} {K : PySem.W.Frag} (h : obsV m fn K = He.valD fn) : m K = true ∧ He.SaysD [] fn K := by
  have h1 : (m K && (He.obsD [] fn K).1) = true := congrArg (fun z : He.AlD => z.1) h
  have h2 : (He.obsD [] fn K).2 = fn.map He.DefD.val := congrArg (fun z : He.AlD => z.2) h
  obtain ⟨h3, h4⟩ := and2 h1
  exact ⟨h3, Prod.ext h4 h2⟩
theorem exc_all {K : PySem.W.Frag} {h : Heap} {mg : Str → Option Value} {exC : List Ex} {x : Ex} (X : K.In h) (Gn : h.Ns mainGlobals mg) (c : excB K exC x = true) : ExOk K mg (fun x => He.ga K x.name) (He.ga K "RoofError") exC x := by
  unfold excB at c
  obtain ⟨c1, c⟩ := and2 c
  obtain ⟨c2, c⟩ := and2 c
  obtain ⟨c3, c⟩ := and2 c
  obtain ⟨c4, c⟩ := and2 c
  obtain ⟨c5, c⟩ := and2 c
  obtain ⟨c6, c⟩ := and2 c
  obtain ⟨c7, c⟩ := and2 c
  obtain ⟨c8, c⟩ := and2 c
  obtain ⟨c9, c⟩ := and2 c
  obtain ⟨c10, c⟩ := and2 c
  obtain ⟨c11, c12⟩ := and2 c
  obtain ⟨e1, e2, e3, e4⟩ := He.exc_ok c2
  exact ⟨He.glo_ok X Gn c1, e2, e1, e3, e4, He.exm_ok c3, ⟨He.eqO_ok c4, He.eqO_ok c5, e3, c6, He.eqO_ok c7, He.eqO_ok c8, of_decide_eq_true c9, of_decide_eq_true c10⟩,
    fun y hy => of_decide_eq_true (List.all_eq_true.mp c12 y hy), of_decide_eq_true c11⟩
theorem FnOk.nox {P : Program} {w : World} {K : PySem.W.Frag} {mg : Str → Option Value} {base : Heap} {k : Nat} {f : Addr} {fd : FuncData} {ps : List Str} {sp : Sp} (F : FnOk P w K mg base (L2.CX P w) k f fd ps sp) :
    FnOk P w K mg base CX0 k f fd ps (fun vs H Q _ => sp vs H Q fun _ _ _ => False) := ⟨fun vs H Q E q => F.len vs H Q _ q, fun A outer s H args us vs Q E hr e0 hb hv hs => by
  refine codeAny_mono (F.run A outer s H args us vs Q _ hr e0 hb hv hs) fun r s' q => ?_
  cases r with
  | ok fl => cases fl <;> exact q
  | error e =>
    obtain ⟨_, _, _, _, _, _, _, _, _, _, _, _, z⟩ := (show L2.CX P w outer H s (fun _ _ _ => False) e s' from q)
    exact z.elim⟩
/-- what the end asks -/
theorem vm_end {top : Nat → Stmt} {dl : List LRow} {exR exC : List Ex} {li k n : Nat} {rl : LRow} {x : Str} {P : Program} (hchk : (dl.all fun r => chkD (nmOf dl) exR exC (r.dr top)) = true) (hb : AllB top dl) (hl : lkUp dl li = some rl) (hx : rl.ps = [x])
    (hrun : ∀ ns : List Int, ns.length ≤ n → run (tabOf dl) (k + 1) li [.val (.sc ns)] = .ret false (.bl true) [])
    {w : World} {mg : Str → Option Value} {fa : Addr} {h : Heap} (Y : ∃ K : PySem.W.Frag, K.In h ∧ obsV (mine dl exR exC) (dl.map (LRow.dd top)) K = He.valD (dl.map (LRow.dd top))) (Gn : h.Ns mainGlobals mg) (hmg : mg rl.name = some (.ref fa)) :
    ∃ (K : PySem.W.Frag) (fd : FuncData) (sp : Sp), K.In h ∧ (∀ (s : Shared) (u : Value), BindsTo s fd ⟨[u], []⟩ [(x, u)]) ∧
        (∀ (H : Hp) (a : Addr) (ns : List Int), ns.length ≤ n → Only H → SqL K H a (ns.map V.int) → sp [.ref a] H (fun v _ => v = .bl true) fun _ _ _ => False) ∧
        ∀ base : Heap, K.In base → base.Ns mainGlobals mg → FnOk P w K mg base CX0 (k + 1) fa fd [x] sp := by
  obtain ⟨K, KX, c⟩ := Y
  obtain ⟨m, sd⟩ := obsV_of c
  unfold mine at m
  obtain ⟨m1, m⟩ := and2 m
  obtain ⟨m2, m⟩ := and2 m
  obtain ⟨m3, m⟩ := and2 m
  obtain ⟨m4, m5⟩ := and2 m
  have free : ∀ x ∈ freeNames, mg x = none := fun x hx => He.free_ok KX Gn (List.all_eq_true.mp m2 x hx)
  have exc : ∀ x ∈ exC, mg x.name = some (.ref (He.ga K x.name)) := fun x hx => He.glo_ok KX Gn (List.all_eq_true.mp m3 x hx)
  have ex : ∀ x ∈ exR, ExOk K mg (fun x => He.ga K x.name) (He.ga K "RoofError") exC x := fun x hx => exc_all KX Gn (List.all_eq_true.mp m4 x hx)
  have ro : exR ≠ [] → mg "RoofError" = some (.ref (He.ga K "RoofError")) := fun hne => He.glo_ok KX Gn (by
    rcases Bool.or_eq_true_iff.mp m5 with z | z
    · exact absurd (List.isEmpty_iff.mp z) hne
    · exact z)
  have row : ∀ {f : Nat} {r : LRow}, lkUp dl f = some r → chkD (nmOf dl) exR exC (r.dr top) = true ∧ ∃ (fd : FuncData), mg r.name = some (.ref (He.ga K r.name)) ∧ FunD K r.name r.name (defArgs (top r.i)) (defBody (top r.i)) (defScope (top r.i)) [] [] (He.ga K r.name) fd ∧ BindsP top r := fun {f r} hf => by
    have mem : r ∈ dl := List.mem_of_find?_eq_some hf
    obtain ⟨j, hj⟩ := List.getElem?_of_mem mem
    obtain ⟨fd, F⟩ := sd.def_ j (d := r.dd top) (by rw [List.getElem?_map, hj]; rfl)
    exact ⟨List.all_eq_true.mp hchk r mem, fd, He.glo_ok KX Gn (List.all_eq_true.mp m1 r mem), F, hb.get mem⟩
  have hrow : ∀ f, nmOf dl f ≠ "" → ∃ r : DR, tabOf dl f = some r.fn ∧ chkD (nmOf dl) exR exC r = true ∧ ∃ (a : Addr) (fd : FuncData), mg (nmOf dl f) = some (.ref a) ∧ FunD K (nmOf dl f) (nmOf dl f) (defArgs r.st) (defBody r.st) (defScope r.st) [] [] a fd ∧ Binds K fd r.ps [] := fun f hf => by
    cases hr : lkUp dl f with
    | none => unfold nmOf at hf; rw [hr] at hf; exact absurd rfl hf
    | some r =>
      obtain ⟨h1, fd, h2, h3, h4⟩ := row hr
      have e : nmOf dl f = r.name := by unfold nmOf; rw [hr]
      rw [e]
      exact ⟨r.dr top, by unfold tabOf; rw [hr]; rfl, h1, _, fd, h2, h3, h3.bindsN h4⟩
  obtain ⟨h1, fd, h2, h3, h4⟩ := row hl
  have efa : fa = He.ga K rl.name := by rw [h2] at hmg; cases hmg; rfl
  subst efa
  refine ⟨K, fd, fun vs H Q _ => ∃ S as B C, Sub S H ∧ Args K S H as vs B C ∧ (B ++ C).Nodup ∧ PstF K (fun x => He.ga K x.name) S H B C Q (fun _ _ _ => False) (runFn (run (tabOf dl) k) rl.fn as), KX, fun s u => ?_, ?_, fun base hbase hns => ?_⟩
  rotate_left 2
  · have F := fn_ok (P := P) (w := w) (base := base) (ca := fun x => He.ga K x.name) h1 h3 (calls_ok hrow free ex exc ro k) free ex exc ro
    have F := FnOk.nox F
    have e : (rl.dr top).ps = [x] := hx
    rw [e] at F
    exact F
  · have := FunD.bindsA h3 h4 s [u] (by rw [hx]; rfl)
    rw [hx] at this
    exact this
  · intro H a ns hlen _ hS
    refine ⟨H, [.val (.sc ns)], [], [], .refl H, .val (.sc hS) .nil, .nil, ?_⟩
    have e := hrun ns hlen
    have e2 : run (tabOf dl) (k + 1) li [.val (.sc ns)] = runFn (run (tabOf dl) k) rl.fn [.val (.sc ns)] := by
      show (match tabOf dl li with | some fn => runFn (run (tabOf dl) k) fn _ | none => .bad) = _
      unfold tabOf; rw [hl]
    rw [e2] at e
    show PstF K _ H H [] [] _ _ (runFn (run (tabOf dl) k) rl.fn [.val (.sc ns)])
    rw [e]
    intro v S' H' A rv
    cases rv
    rfl
end Vm

/-! Vm3: the interpreter's steps, as rewriting. -/
namespace Vm
open PySem L2
section
variable {call : CallT} {refs : List Nat} {e : Env} {α β : Type}
@[simp] theorem rb1 (a : α) (f : α → Env → Res β) : (Res.ok a e).bind f = f a e := rfl
@[simp] theorem rb2 (x : Ex) (f : α → Env → Res β) : (Res.exc x e : Res α).bind f = .exc x e := rfl
@[simp] theorem rt1 (a : α) (f : α → Env → SR) : (Res.ok a e).to f = f a e := rfl
@[simp] theorem rt2 (x : Ex) (f : α → Env → SR) : (Res.exc x e : Res α).to f = .exc x e := rfl
@[simp] theorem sr1 (f : Env → SR) : (SR.next e).then f = f e := rfl
@[simp] theorem sr2 (fr : Bool) (d : D) (f : Env → SR) : (SR.ret fr d e).then f = .ret fr d e := rfl
@[simp] theorem sr3 (x : Ex) (f : Env → SR) : (SR.exc x e).then f = .exc x e := rfl
@[simp] theorem to_ite {c : Prop} [Decidable c] (r s : Res α) (f : α → Env → SR) : (if c then r else s).to f = if c then r.to f else s.to f := by split <;> rfl
@[simp] theorem bind_ite {c : Prop} [Decidable c] (r s : Res α) (f : α → Env → Res β) : (if c then r else s).bind f = if c then r.bind f else s.bind f := by split <;> rfl
@[simp] theorem then_ite {c : Prop} [Decidable c] (r s : SR) (f : Env → SR) : (if c then r else s).then f = if c then r.then f else s.then f := by split <;> rfl
@[simp] theorem op_none (r : Unit → Res (Bool × D)) : opnd none r e = (r ()).bind fun p e => .ok (.d p.2) e := rfl
theorem op_some (i : Nat) (r : Unit → Res (Bool × D)) : opnd (some i) r e = match pk e i with | some _ => .ok (.slot i) e | none => .bad := rfl
theorem g_slot (i : Nat) : got (.slot i) e = pk e i := rfl
@[simp] theorem g_d (d : D) : got (.d d) e = some d := rfl
@[simp] theorem gs0 : gots [] e = some [] := rfl
@[simp] theorem gs1 (o : Opd) (r : List Opd) : gots (o :: r) e = (got o e).bind fun d => (gots r e).map (d :: ·) := rfl
@[simp] theorem fr1 (d : D) : fresh (some d) e = .ok (isL d, d) e := rfl
@[simp] theorem ol1 (d : D) : old (some d) e = .ok (false, d) e := rfl
@[simp] theorem ob1 (b : Bool) : ofB (some b) e = .ok (false, .bl b) e := rfl
@[simp] theorem oo1 (a : α) : ofO (some a) e = .ok a e := rfl
@[simp] theorem ab1 (b : Bool) : asB (.bl b) e = .ok b e := rfl
@[simp] theorem ai1 (b : Int) : asI (.int b) e = .ok b e := rfl
@[simp] theorem il1 (i : Int) : isL (.int i) = false := rfl
@[simp] theorem il2 (i : Str) : isL (.str i) = false := rfl
@[simp] theorem il3 (i : Bool) : isL (.bl i) = false := rfl
@[simp] theorem il4 : isL .non = false := rfl
@[simp] theorem il5 (l : List D) : isL (.tup l) = false := rfl
@[simp] theorem il6 (l : List D) : isL (.lst l) = true := rfl
@[simp] theorem ee_con (c : C) : evE call refs (.con c) e = .ok (false, c.d) e := by simp only [evE]
@[simp] theorem ee_var (i : Nat) : evE call refs (.var i) e = (rd e i).bind fun d e => .ok (false, d) e := by simp only [evE]
@[simp] theorem ee_tup (es : Es) : evE call refs (.tup es) e = (evEs call refs es e).bind fun l e => if l.length ≤ 4096 then .ok (false, .tup l) e else .bad := by simp only [evE]
@[simp] theorem ee_lst (es : Es) : evE call refs (.lst es) e = (evEs call refs es e).bind fun l e => if l.length ≤ 4096 then .ok (true, .lst l) e else .bad := by simp only [evE]
@[simp] theorem ee_bin (o : BO) (a b : E) : evE call refs (.bin o a b) e = (opnd (isVar a) (fun _ => evE call refs a e) e).bind fun x e => (opnd (isVar b) (fun _ => evE call refs b e) e).bind fun y e => op2 x y e fun x y => fresh (binD o x y) e := by simp only [evE]
@[simp] theorem ee_neg (a : E) : evE call refs (.neg a) e = (opnd (isVar a) (fun _ => evE call refs a e) e).bind fun x e => op1 x e fun x => (asI x e).bind fun i e => .ok (false, .int (-i)) e := by simp only [evE]
@[simp] theorem ee_cmp (o : CO) (a b : E) : evE call refs (.cmp o a b) e = (opnd (isVar a) (fun _ => evE call refs a e) e).bind fun x e => (opnd (isVar b) (fun _ => evE call refs b e) e).bind fun y e => op2 x y e fun x y => ofB (cmpD o x y) e := by simp only [evE]
@[simp] theorem ee_bop (k : Bool) (es : Es) : evE call refs (.bop k es) e = evBs call refs k es e := by simp only [evE]
@[simp] theorem ee_not (a : E) : evE call refs (.not a) e = (opnd (isVar a) (fun _ => evE call refs a e) e).bind fun x e => op1 x e fun x => (asB x e).bind fun b e => .ok (false, .bl (!b)) e := by simp only [evE]
@[simp] theorem ee_ite (c a b : E) : evE call refs (.ite c a b) e = (opnd (isVar c) (fun _ => evE call refs c e) e).bind fun x e => op1 x e fun x => (asB x e).bind fun k e => if k = true then evE call refs a e else evE call refs b e := by simp only [evE]
@[simp] theorem ee_idx (a i : E) : evE call refs (.idx a i) e = (opnd (isVar a) (fun _ => evE call refs a e) e).bind fun x e => (opnd (isVar i) (fun _ => evE call refs i e) e).bind fun y e => op2 x y e fun x y => old (idxD x y) e := by simp only [evE]
@[simp] theorem ee_slc (a : E) (lo hi : Eo) : evE call refs (.slc a lo hi) e = (opnd (isVar a) (fun _ => evE call refs a e) e).bind fun x e => (evEo call refs lo e).bind fun l e => (evEo call refs hi e).bind fun h e => op1 x e fun x => fresh (slcD x l h) e := by simp only [evE]
@[simp] theorem ee_call (f : Nat) (as : As) : evE call refs (.call f as) e = (evAs call refs as e).bind fun vs e => doCall call f vs e := by simp only [evE]
@[simp] theorem ee_bi (b : BI) (es : Es) : evE call refs (.bi b es) e = (evPs call refs es e).bind fun l e => opn l e fun l => fresh (biD b l) e := by simp only [evE]
@[simp] theorem ee_isi (a : E) (t : Ty) : evE call refs (.isi a t) e = (opnd (isVar a) (fun _ => evE call refs a e) e).bind fun x e => op1 x e fun x => ofB (isiD x t) e := by simp only [evE]
@[simp] theorem es0 : evEs call refs .nil e = .ok [] e := by simp only [evEs]
@[simp] theorem es1 (a : E) (r : Es) : evEs call refs (.cons a r) e = (evE call refs a e).bind fun p e => (evEs call refs r e).bind fun l e => .ok (p.2 :: l) e := by simp only [evEs]
@[simp] theorem ps0 : evPs call refs .nil e = .ok [] e := by simp only [evPs]
@[simp] theorem ps1 (a : E) (r : Es) : evPs call refs (.cons a r) e = (opnd (isVar a) (fun _ => evE call refs a e) e).bind fun d e => (evPs call refs r e).bind fun l e => .ok (d :: l) e := by simp only [evPs]
@[simp] theorem bs1 (k : Bool) (a : E) : evBs call refs k (.cons a .nil) e = evE call refs a e := by simp only [evBs]
@[simp] theorem bs2 (k : Bool) (a b : E) (r : Es) : evBs call refs k (.cons a (.cons b r)) e = (opnd (isVar a) (fun _ => evE call refs a e) e).bind fun x e => op1 x e fun x => (asB x e).bind fun t e => if t = k then evBs call refs k (.cons b r) e else .ok (false, .bl t) e := by simp only [evBs]
@[simp] theorem eo0 : evEo call refs .none e = .ok none e := by simp only [evEo]
@[simp] theorem eo1 (a : E) : evEo call refs (.some a) e = (opnd (isVar a) (fun _ => evE call refs a e) e).bind fun x e => op1 x e fun x => (asI x e).bind fun i e => .ok (some i) e := by simp only [evEo]
@[simp] theorem as0 : evAs call refs .nil e = .ok [] e := by simp only [evAs]
@[simp] theorem as1 (a : E) (r : As) : evAs call refs (.val a r) e = (evE call refs a e).bind fun p e => (evAs call refs r e).bind fun l e => .ok (.v p.2 :: l) e := by simp only [evAs]
@[simp] theorem as2 (a : E) (r : As) : evAs call refs (.mov a r) e = (evE call refs a e).bind fun p e => if p.1 = true then (evAs call refs r e).bind fun l e => .ok (.m p.2 :: l) e else .bad := by simp only [evAs]
@[simp] theorem as3 (i : Nat) (r : As) : evAs call refs (.lend i r) e = (ofO (pk e i) e).bind fun _ e => (evAs call refs r e).bind fun l e => .ok (.l i :: l) e := by simp only [evAs]
@[simp] theorem as4 (i : Nat) (r : As) : evAs call refs (.ref i r) e = (ofO (pk e i) e).bind fun _ e => (evAs call refs r e).bind fun l e => .ok (.r i :: l) e := by simp only [evAs]
@[simp] theorem et1 (a : E) : evT call refs a e = (opnd (isVar a) (fun _ => evE call refs a e) e).bind fun x e => op1 x e fun x => asB x e := rfl
@[simp] theorem st_asg (i : Nat) (a : E) : evS call (.asg i a) refs e = (evE call refs a e).to fun p e => (sto refs i (slotOf p.1 p.2) e).to fun _ e => .next e := by simp only [evS]
@[simp] theorem st_par (i j : Nat) (a b : E) : evS call (.par i j a b) refs e = (evE call refs a e).to fun p e => (evE call refs b e).to fun q e => (sto refs j (.val q.2) e).to fun _ e => (sto refs i (.val p.2) e).to fun _ e => .next e := by simp only [evS]
@[simp] theorem st_xpr (a : E) : evS call (.xpr a) refs e = (evE call refs a e).to fun _ e => .next e := by simp only [evS]
@[simp] theorem st_ifs (c : E) (a b : Ss) : evS call (.ifs c a b) refs e = (evT call refs c e).to fun k e => if k = true then evSs call a refs e else evSs call b refs e := by simp only [evS]
@[simp] theorem st_rse (x : Ex) : evS call (.rse x) refs e = .exc x e := by simp only [evS]
def whlE (call : CallT) (refs : List Nat) (c : E) (b : Ss) (n : Nat) (e : Env) : SR := whlL (fun e => evT call refs c e) (fun e => evSs call b refs e) n e
@[simp] theorem st_whl (fuel : Env → Nat) (c : E) (b : Ss) : evS call (.whl fuel c b) refs e = whlE call refs c b (fuel e) e := by simp only [evS]; rfl
theorem whl1 (c : E) (b : Ss) (n : Nat) : whlE call refs c b (n + 1) e = (evT call refs c e).to fun t e => if t = true then (evSs call b refs e).then fun e => whlE call refs c b n e else .next e := rfl
@[simp] theorem ee_mth (m : MT) (r : E) (es : Es) : evE call refs (.mth m r es) e = (opnd (isVar r) (fun _ => evE call refs r e) e).bind fun x e => op1 x e fun d => if rcv m d = true then (evEs call refs es e).bind fun l e => op1 x e fun x => match m with
      | .get => old (mthD m x l) e
      | .index => if isL x = isL d then fresh (mthD m x l) e else .bad
      | _ => fresh (mthD m x l) e
      else .bad := by first | (simp only [evE]; done) | (simp only [evE]; rfl)
theorem st_ret (a : E) (h : isVar a = none) : evS call (.ret a) refs e = (evE call refs a e).to fun p e => .ret p.1 p.2 e := by simp only [evS, h]
@[simp] theorem st_ret_con (c : C) : evS call (.ret (.con c)) refs e = (evE call refs (.con c) e).to fun p e => .ret p.1 p.2 e := st_ret _ rfl
@[simp] theorem st_ret_tup (es : Es) : evS call (.ret (.tup es)) refs e = (evE call refs (.tup es) e).to fun p e => .ret p.1 p.2 e := st_ret _ rfl
@[simp] theorem st_ret_lst (es : Es) : evS call (.ret (.lst es)) refs e = (evE call refs (.lst es) e).to fun p e => .ret p.1 p.2 e := st_ret _ rfl
@[simp] theorem st_ret_bin (o : BO) (a b : E) : evS call (.ret (.bin o a b)) refs e = (evE call refs (.bin o a b) e).to fun p e => .ret p.1 p.2 e := st_ret _ rfl
@[simp] theorem st_ret_cmp (o : CO) (a b : E) : evS call (.ret (.cmp o a b)) refs e = (evE call refs (.cmp o a b) e).to fun p e => .ret p.1 p.2 e := st_ret _ rfl
@[simp] theorem st_ret_bop (k : Bool) (es : Es) : evS call (.ret (.bop k es)) refs e = (evE call refs (.bop k es) e).to fun p e => .ret p.1 p.2 e := st_ret _ rfl
@[simp] theorem st_ret_not (a : E) : evS call (.ret (.not a)) refs e = (evE call refs (.not a) e).to fun p e => .ret p.1 p.2 e := st_ret _ rfl
@[simp] theorem st_ret_idx (a i : E) : evS call (.ret (.idx a i)) refs e = (evE call refs (.idx a i) e).to fun p e => .ret p.1 p.2 e := st_ret _ rfl
@[simp] theorem st_ret_call (f : Nat) (as : As) : evS call (.ret (.call f as)) refs e = (evE call refs (.call f as) e).to fun p e => .ret p.1 p.2 e := st_ret _ rfl
@[simp] theorem st_ret_bi (b : BI) (es : Es) : evS call (.ret (.bi b es)) refs e = (evE call refs (.bi b es) e).to fun p e => .ret p.1 p.2 e := st_ret _ rfl
@[simp] theorem st_ret_comp (x : E) (a : Bool) (b : List Nat) (s : Src) (c : Eo) : evS call (.ret (.comp x a b s c)) refs e = (evE call refs (.comp x a b s c) e).to fun p e => .ret p.1 p.2 e := st_ret _ rfl
@[simp] theorem st_ret_ite (c a b : E) : evS call (.ret (.ite c a b)) refs e = (evE call refs (.ite c a b) e).to fun p e => .ret p.1 p.2 e := st_ret _ rfl
@[simp] theorem st_ret_mth (m : MT) (r : E) (es : Es) : evS call (.ret (.mth m r es)) refs e = (evE call refs (.mth m r es) e).to fun p e => .ret p.1 p.2 e := st_ret _ rfl
@[simp] theorem st_ret_isi (a : E) (t : Ty) : evS call (.ret (.isi a t)) refs e = (evE call refs (.isi a t) e).to fun p e => .ret p.1 p.2 e := st_ret _ rfl
@[simp] theorem st_retv (i : Nat) : evS call (.ret (.var i)) refs e = match e[i]? with
        | some (.val d) => .ret false d e
        | some (.own d) => if i ∈ refs then .bad else .ret true d (e.set i .emp)
        | some (.lck d) => if i ∈ refs then .bad else .ret true d (e.set i .emp)
        | _ => .bad := by first | (simp only [evS, isVar]; done) | (simp only [evS, isVar]; rfl)
@[simp] theorem st_ret0 : evS call .ret0 refs e = .ret false .non e := by simp only [evS]
/-- a loop over what is there -/
def forS (call : CallT) (refs : List Nat) (tp : Bool) (ts : List Nat) (b : Ss) : List D → Env → SR
  | [], e => .next e
  | d :: r, e => (stoT refs tp ts d e).to fun _ e => (evSs call b refs e).then fun e => forS call refs tp ts b r e
theorem forL_st (tp : Bool) (ts : List Nat) (b : Ss) (l : List D) : ∀ (k n : Nat) (e : Env), k + n = l.length → forL (fun e => evSs call b refs e) (stoT refs tp ts) (.st l) k n e = forS call refs tp ts b (l.drop n) e
  | 0, n, e, h => by
    have : l[n]? = none := List.getElem?_eq_none (by omega)
    unfold forL Wk.look
    dsimp only
    rw [this, List.drop_of_length_le (by omega)]; rfl
  | k + 1, n, e, h => by
    have hn : n < l.length := by omega
    have : l[n]? = some l[n] := List.getElem?_eq_getElem hn
    unfold forL Wk.look
    rw [List.drop_eq_getElem_cons hn]
    simp only [this]
    unfold forS
    congr 1
    funext _ e
    congr 1
    funext e
    exact forL_st tp ts b l k (n + 1) e (by omega)
theorem st_loop_st {tp : Bool} {ts : List Nat} {src : Src} {b : Ss} {l : List D} {e1 : Env} (h : evSrc call refs src e = .ok (.st l) e1) : evS call (.loop tp ts src b) refs e = forS call refs tp ts b l e1 := by
  simp only [evS, h, rt1]
  exact forL_st tp ts b l l.length 0 e1 rfl
theorem clr_clr {ts : List Nat} {e : Env} : clr ts (clr ts e) = clr ts e := by
  refine List.ext_getElem? fun i => ?_
  by_cases hi : i ∈ ts
  · have key : ∀ {e : Env}, i < e.length → (clr ts e)[i]? = some .emp := fun {e} hlt => by
      cases q : (clr ts e)[i]? with
      | none => rw [List.getElem?_eq_none_iff, clr_len] at q; omega
      | some s =>
        rcases clr_get q with ⟨_, z⟩ | ⟨z, _⟩
        · rw [z]
        · exact absurd hi z
    by_cases hlt : i < e.length
    · rw [key hlt, key (by rw [clr_len]; exact hlt)]
    · rw [List.getElem?_eq_none (by rw [clr_len, clr_len]; omega), List.getElem?_eq_none (by rw [clr_len]; omega)]
  · rw [clr_out hi]
theorem back_same {ts : List Nat} {e e' : Env} (h : clr ts e' = clr ts e) : Vm.back e ts e' = e := by
  have hl : e'.length = e.length := by have := congrArg List.length h; rwa [clr_len, clr_len] at this
  refine List.ext_getElem? fun i => ?_
  cases q : (Vm.back e ts e')[i]? with
  | none => rw [List.getElem?_eq_none_iff, back_len, hl] at q; rw [List.getElem?_eq_none (by omega)]
  | some s =>
    rcases back_get hl q with ⟨_, z⟩ | ⟨z1, z2⟩
    · exact z.symm
    · rw [← clr_out z1, h, clr_out z1] at z2; exact z2.symm
/-- a comprehension that leaves the names as they are -/
theorem compL_pure {elt : Env → Res (Bool × D)} {cond : Env → Res Bool} {tp : Bool} {ts : List Nat} {w : Wk} {l : List D} {eb : Env} {f : D → Option D} (hl : ∀ n e, clr ts e = eb → w.look e n = some l[n]?)
    (ht : ∀ d ∈ l, ∃ e3, stoT refs tp ts d eb = .ok () e3 ∧ match f d with
      | some v => cond e3 = .ok true e3 ∧ ∃ fr e4, elt e3 = .ok (fr, v) e4 ∧ clr ts e4 = eb
      | none => cond e3 = .ok false e3 ∧ clr ts e3 = eb) : ∀ (k n : Nat) (e : Env), l.length ≤ k + n → n ≤ l.length → clr ts e = eb →
    ∃ e', compL elt cond (fun d e => stoT refs tp ts d (clr ts e)) w k n e = .ok ((l.drop n).filterMap f) e' ∧ clr ts e' = eb
  | 0, n, e, h1, h2, he => by
    refine ⟨e, ?_, he⟩
    have : l[n]? = none := List.getElem?_eq_none (by omega)
    unfold compL
    rw [hl n e he, this, List.drop_of_length_le (by omega)]; rfl
  | k + 1, n, e, h1, h2, he => by
    by_cases hn : n < l.length
    · have hg : l[n]? = some l[n] := List.getElem?_eq_getElem hn
      obtain ⟨e3, s1, s2⟩ := ht l[n] (List.getElem_mem hn)
      rw [List.drop_eq_getElem_cons hn, List.filterMap_cons]
      unfold compL
      rw [hl n e he, hg]
      dsimp only
      rw [he, s1]
      dsimp only
      cases hf : f l[n] with
      | none =>
        rw [hf] at s2
        obtain ⟨c1, c2⟩ := s2
        rw [c1]
        exact compL_pure hl ht k (n + 1) e3 (by omega) hn c2
      | some v =>
        rw [hf] at s2
        obtain ⟨c1, fr, e4, c2, c3⟩ := s2
        rw [c1]
        dsimp only
        rw [c2]
        dsimp only
        obtain ⟨e', r1, r2⟩ := compL_pure hl ht k (n + 1) e4 (by omega) hn c3
        rw [r1]
        exact ⟨e', rfl, r2⟩
    · refine ⟨e, ?_, he⟩
      have : l[n]? = none := List.getElem?_eq_none (by omega)
      unfold compL
      rw [hl n e he, this, List.drop_of_length_le (by omega)]; rfl
theorem comp_pure {elt : E} {tp : Bool} {ts : List Nat} {src : Src} {cond : Eo} {w : Wk} {l : List D} {e1 : Env} {f : D → Option D} (hs : evSrc call refs src e = .ok w e1) (hk : hideOk (w.ix ++ refs) ts e1 = true) (hfu : l.length ≤ w.fuel) (hf2 : w.fuel ≤ 16777216)
    (hl : ∀ n e, clr ts e = clr ts e1 → w.look e n = some l[n]?)
    (ht : ∀ d ∈ l, ∃ e3, stoT refs tp ts d (clr ts e1) = .ok () e3 ∧ match f d with
      | some v => evC call refs cond e3 = .ok true e3 ∧ ∃ fr e4, evE call refs elt e3 = .ok (fr, v) e4 ∧ clr ts e4 = clr ts e1
      | none => evC call refs cond e3 = .ok false e3 ∧ clr ts e3 = clr ts e1) :
    evE call refs (.comp elt tp ts src cond) e = .ok (true, .lst (l.filterMap f)) e1 := by
  simp only [evE, hs, rb1]
  rw [if_pos ⟨hk, hf2⟩]
  obtain ⟨e', r1, r2⟩ := compL_pure (cond := fun e => evC call refs cond e) (elt := fun e => evE call refs elt e) hl ht w.fuel 0 e1 (by omega) (Nat.zero_le _) rfl
  rw [r1]
  show Res.ok _ (Vm.back e1 ts e') = _
  rw [back_same r2]
  rfl
/-- over one's own list -/
theorem look_ow {ts : List Nat} {e1 : Env} {i m : Nat} {l : List D} (hi : i ∉ ts) (h : e1[i]? = some (.own (.lst l)) ∨ e1[i]? = some (.val (.lst l))) : ∀ n e, clr ts e = clr ts e1 → (Wk.ow i m).look e n = some l[n]? := fun n e he => by
  have : e[i]? = e1[i]? := by rw [← clr_out (ts := ts) (e := e) hi, he, clr_out hi]
  have hp : pk e i = some (.lst l) := by
    unfold pk
    rcases h with h | h <;> (rw [this, h])
  show (match pk e i with | some (.lst l) => some l[n]? | _ => none) = _
  rw [hp]
@[simp] theorem ss0 : evSs call .nil refs e = .next e := by simp only [evSs]
@[simp] theorem ss1 (a : S) (r : Ss) : evSs call (.cons a r) refs e = (evS call a refs e).then fun e => evSs call r refs e := by simp only [evSs]
@[simp] theorem iv0 (i : Nat) : isVar (.var i) = some i := rfl
@[simp] theorem iv1 (c : C) : isVar (.con c) = none := rfl
@[simp] theorem iv2 (o : BO) (a b : E) : isVar (.bin o a b) = none := rfl
@[simp] theorem iv3 (o : CO) (a b : E) : isVar (.cmp o a b) = none := rfl
@[simp] theorem iv4 (k : Bool) (es : Es) : isVar (.bop k es) = none := rfl
@[simp] theorem iv5 (a : E) : isVar (.not a) = none := rfl
@[simp] theorem iv6 (a i : E) : isVar (.idx a i) = none := rfl
@[simp] theorem iv7 (a : E) (lo hi : Eo) : isVar (.slc a lo hi) = none := rfl
@[simp] theorem iv8 (f : Nat) (as : As) : isVar (.call f as) = none := rfl
@[simp] theorem iv9 (b : BI) (es : Es) : isVar (.bi b es) = none := rfl
@[simp] theorem iv10 (es : Es) : isVar (.tup es) = none := rfl
@[simp] theorem iv11 (es : Es) : isVar (.lst es) = none := rfl
@[simp] theorem iv12 (a : E) (t : Ty) : isVar (.isi a t) = none := rfl
@[simp] theorem iv13 (m : MT) (r : E) (es : Es) : isVar (.mth m r es) = none := rfl
@[simp] theorem iv14 (x : E) (a : Bool) (b : List Nat) (s : Src) (c : Eo) : isVar (.comp x a b s c) = none := rfl
@[simp] theorem iv15 (c a b : E) : isVar (.ite c a b) = none := rfl
@[simp] theorem iv16 (a : E) : isVar (.neg a) = none := rfl
def pkS : Slot → Option D
  | .val d => some d | .own d => some d | .lck d => some d | .emp => none
@[simp] theorem pkS1 (d : D) : pkS (.val d) = some d := rfl
@[simp] theorem pkS2 (d : D) : pkS (.own d) = some d := rfl
@[simp] theorem pkS3 : pkS .emp = none := rfl
@[simp] theorem pk_zero (s : Slot) : pk (s :: e) 0 = pkS s := by cases s <;> rfl
@[simp] theorem pk_succ (s : Slot) (i : Nat) : pk (s :: e) (i + 1) = pk e i := rfl
@[simp] theorem op_cons (s : Slot) (i : Nat) (r : Unit → Res (Bool × D)) : opnd (some i) r (s :: e) = match pk (s :: e) i with | some _ => .ok (.slot i) (s :: e) | none => .bad := rfl
@[simp] theorem got_cons (s : Slot) (i : Nat) : got (.slot i) (s :: e) = pk (s :: e) i := rfl
@[simp] theorem rd_cons (s : Slot) (i : Nat) : rd (s :: e) i = match (s :: e)[i]? with
  | some (.val d) => .ok d (s :: e)
  | some (.own d) => .ok d ((s :: e).set i (.val d))
  | some (.lck d) => .ok d ((s :: e).set i (.val d))
  | _ => .bad := rfl
@[simp] theorem sto_cons (s s' : Slot) (i : Nat) : sto refs i s' (s :: e) = if i ∈ refs ∨ (s :: e).length ≤ i then .bad else .ok () ((s :: e).set i s') := rfl
@[simp] theorem so1 (d : D) : slotOf true d = .own d := rfl
@[simp] theorem so2 (d : D) : slotOf false d = .val d := rfl
theorem op1_of {o : Opd} {d : D} {f : D → Res α} (h : got o e = some d) : op1 o e f = f d := by unfold op1; rw [h]
@[simp] theorem op1_d (d : D) (f : D → Res α) : op1 (.d d) e f = f d := rfl
@[simp] theorem op1_s (s : Slot) (i : Nat) (f : D → Res α) : op1 (.slot i) (s :: e) f = match pk (s :: e) i with | some d => f d | none => .bad := rfl
@[simp] theorem op2_dd (d d' : D) (f : D → D → Res α) : op2 (.d d) (.d d') e f = f d d' := rfl
@[simp] theorem op2_sd (s : Slot) (i : Nat) (d' : D) (f : D → D → Res α) : op2 (.slot i) (.d d') (s :: e) f = match pk (s :: e) i with | some d => f d d' | none => .bad := by
  show (match pk (s :: e) i, some d' with | some d, some d' => f d d' | _, _ => .bad) = _
  cases pk (s :: e) i <;> rfl
@[simp] theorem op2_ds (s : Slot) (i : Nat) (d : D) (f : D → D → Res α) : op2 (.d d) (.slot i) (s :: e) f = match pk (s :: e) i with | some d' => f d d' | none => .bad := by
  show (match some d, pk (s :: e) i with | some d, some d' => f d d' | _, _ => .bad) = _
  cases pk (s :: e) i <;> rfl
@[simp] theorem op2_ss (s : Slot) (i j : Nat) (f : D → D → Res α) : op2 (.slot i) (.slot j) (s :: e) f = match pk (s :: e) i with | some d => (match pk (s :: e) j with | some d' => f d d' | none => .bad) | none => .bad := by
  show (match pk (s :: e) i, pk (s :: e) j with | some d, some d' => f d d' | _, _ => .bad) = _
  cases pk (s :: e) i <;> cases pk (s :: e) j <;> rfl
@[simp] theorem opn_of (os : List Opd) (f : List D → Res α) : opn os e f = match gots os e with | some d => f d | none => .bad := rfl
@[simp] theorem bd1 (i j : Int) : binD .add (.int i) (.int j) = some (.int (i + j)) := rfl
@[simp] theorem bd2 (i j : Int) : binD .sub (.int i) (.int j) = some (.int (i - j)) := rfl
@[simp] theorem bd3 (i j : Int) : binD .mul (.int i) (.int j) = if mulOk i j then some (.int (i * j)) else none := rfl
@[simp] theorem bd4 (i j : Int) : binD .fdiv (.int i) (.int j) = if j ≠ 0 ∧ fdOk i j = true then some (.int (i.fdiv j)) else none := rfl
@[simp] theorem bd5 (i j : Int) : binD .mod (.int i) (.int j) = if j ≠ 0 then some (.int (i.fmod j)) else none := rfl
@[simp] theorem bd6 (i j : Int) : binD .pow (.int i) (.int j) = if 0 ≤ j ∧ j ≤ 1000000 ∧ i.natAbs < 2 ^ 64 then some (.int (i ^ j.toNat)) else none := rfl
@[simp] theorem bd7 (x y : Str) : binD .add (.str x) (.str y) = if x.length + y.length ≤ 16777216 then some (.str (x ++ y)) else none := rfl
@[simp] theorem bd8 (x y : List D) : binD .add (.lst x) (.lst y) = if x.length + y.length ≤ 16777216 then some (.lst (x ++ y)) else none := rfl
@[simp] theorem cd1 (a b : D) : cmpD .eq a b = eqD a b := rfl
@[simp] theorem cd2 (a b : D) : cmpD .ne a b = (eqD a b).map not := rfl
@[simp] theorem cd3 (i j : Int) : cmpD .lt (.int i) (.int j) = some (decide (i < j)) := rfl
@[simp] theorem cd4 (i j : Int) : cmpD .le (.int i) (.int j) = some (decide (i ≤ j)) := rfl
@[simp] theorem cd5 (i j : Int) : cmpD .gt (.int i) (.int j) = some (decide (j < i)) := rfl
@[simp] theorem cd6 (i j : Int) : cmpD .ge (.int i) (.int j) = some (decide (j ≤ i)) := rfl
@[simp] theorem cd7 (a b : D) : cmpD .isIn a b = inD a b := rfl
@[simp] theorem cd8 (a b : D) : cmpD .notIn a b = (inD a b).map not := rfl
@[simp] theorem cd9 (a : D) : cmpD .isS a .non = some (isNon a) := by cases a <;> rfl
@[simp] theorem cd10 (a : D) : cmpD .notS a .non = some (!isNon a) := by cases a <;> rfl
@[simp] theorem cdd (b : Bool) : (C.bl b).d = .bl b := rfl
@[simp] theorem cdd2 (b : Int) : (C.int b).d = .int b := rfl
@[simp] theorem cdd3 (b : Str) : (C.str b).d = .str b := rfl
@[simp] theorem cdd4 : C.non.d = .non := rfl
theorem shaped_int (i : Int) : SeqAt.shaped (.int i) = true := rfl
@[simp] theorem eq_int (i j : Int) : eqD (.int i) (.int j) = some (i == j) := rfl
theorem shaped_str (x : Str) : SeqAt.shaped (.str x) = PyData.strOk x := by
  show (PyData.strOk x && decide (0 ≤ 64)) = _
  simp
theorem eq_str {x y : Str} (h1 : PyData.strOk x = true) (h2 : PyData.strOk y = true) : eqD (.str x) (.str y) = some (x == y) := by
  show (if SeqAt.shaped (.str x) = true ∧ SeqAt.shaped (.str y) = true then some (x == y) else none) = _
  rw [if_pos ⟨by rw [shaped_str]; exact h1, by rw [shaped_str]; exact h2⟩]
@[simp] theorem ob_if {c : Prop} [Decidable c] (a b : Option Bool) : ofB (if c then a else b) e = if c then ofB a e else ofB b e := by split <;> rfl
@[simp] theorem fr_if {c : Prop} [Decidable c] (a b : Option D) : fresh (if c then a else b) e = if c then fresh a e else fresh b e := by split <;> rfl
end
end Vm

namespace Vm
open PySem
def gcdFuel (i : Nat) (e : Vm.Env) : Nat := match e[i]? with
  | some (.val (.int k)) => k.natAbs + 1
  | _ => 0
/-- the def of a number -/
class Has (tab : Nat → Option Fn) (i : Nat) (f : outParam Fn) : Prop where
  h : tab i = some f
theorem run_at {tab : Nat → Option Fn} {i : Nat} {f : Fn} (H : Has tab i f) (k : Nat) (as : List AV) : run tab (k + 1) i as = runFn (run tab k) f as := by
  show (match tab i with | some fn => runFn (run tab k) fn as | none => .bad) = _
  rw [H.h]
-- 0 one other
abbrev fuel_f_divisor : Vm.Env → Nat := gcdFuel 1
def w_divisor_1 : E := (.cmp .gt (.var 1) (.con (.int 0)))
def b_divisor_1 : Ss := (.cons (.par 0 1 (.var 1) (.bin .mod (.var 0) (.var 1))) .nil)
def f_divisor : Fn := ⟨[.v, .v], 2, (.cons (.asg 0 (.bi .abs (.cons (.var 0) .nil))) (.cons (.asg 1 (.bi .abs (.cons (.var 1) .nil))) (.cons (.whl fuel_f_divisor w_divisor_1 b_divisor_1) (.cons (.ret (.var 0)) .nil))))⟩
-- 1 top bottom many
def f_fraction : Fn := ⟨[.v, .v], 3, (.cons (.ifs (.cmp .eq (.var 1) (.con (.int 0))) (.cons (.rse .NoNumber) .nil) .nil) (.cons (.asg 2 (.call 0 (.lend 0 (.lend 1 .nil)))) (.cons (.ifs (.cmp .lt (.var 1) (.con (.int 0))) (.cons (.asg 2 (.bin .sub (.con (.int 0)) (.var 2))) .nil) .nil) (.cons (.ret (.tup (.cons (.bin .fdiv (.var 0) (.var 2)) (.cons (.bin .fdiv (.var 1) (.var 2)) .nil)))) .nil))))⟩
-- 2 one other
def f_plus : Fn := ⟨[.v, .v], 2, (.cons (.ret (.call 1 (.val (.bin .add (.bin .mul (.idx (.var 0) (.con (.int 0))) (.idx (.var 1) (.con (.int 1)))) (.bin .mul (.idx (.var 1) (.con (.int 0))) (.idx (.var 0) (.con (.int 1))))) (.val (.bin .mul (.idx (.var 0) (.con (.int 1))) (.idx (.var 1) (.con (.int 1)))) .nil)))) .nil)⟩
-- 3 one other
def f_minus : Fn := ⟨[.v, .v], 2, (.cons (.ret (.call 1 (.val (.bin .sub (.bin .mul (.idx (.var 0) (.con (.int 0))) (.idx (.var 1) (.con (.int 1)))) (.bin .mul (.idx (.var 1) (.con (.int 0))) (.idx (.var 0) (.con (.int 1))))) (.val (.bin .mul (.idx (.var 0) (.con (.int 1))) (.idx (.var 1) (.con (.int 1)))) .nil)))) .nil)⟩
-- 4 one other
def f_product : Fn := ⟨[.v, .v], 2, (.cons (.ret (.call 1 (.val (.bin .mul (.idx (.var 0) (.con (.int 0))) (.idx (.var 1) (.con (.int 0)))) (.val (.bin .mul (.idx (.var 0) (.con (.int 1))) (.idx (.var 1) (.con (.int 1)))) .nil)))) .nil)⟩
-- 6 one other
def f_step_of : Fn := ⟨[.v, .v], 2, (.cons (.ret (.tup (.cons (.call 3 (.val (.idx (.var 1) (.con (.int 0))) (.val (.idx (.var 0) (.con (.int 0))) .nil))) (.cons (.call 3 (.val (.idx (.var 1) (.con (.int 1))) (.val (.idx (.var 0) (.con (.int 1))) .nil))) .nil)))) .nil)⟩
-- 10 one other
def f_dotted : Fn := ⟨[.v, .v], 2, (.cons (.ret (.call 2 (.val (.call 4 (.val (.idx (.var 0) (.con (.int 0))) (.val (.idx (.var 1) (.con (.int 0))) .nil))) (.val (.call 4 (.val (.idx (.var 0) (.con (.int 1))) (.val (.idx (.var 1) (.con (.int 1))) .nil))) .nil)))) .nil)⟩
-- 11 one other
def f_crossed : Fn := ⟨[.v, .v], 2, (.cons (.ret (.call 3 (.val (.call 4 (.val (.idx (.var 0) (.con (.int 0))) (.val (.idx (.var 1) (.con (.int 1))) .nil))) (.val (.call 4 (.val (.idx (.var 0) (.con (.int 1))) (.val (.idx (.var 1) (.con (.int 0))) .nil))) .nil)))) .nil)⟩
-- 12 one other third top
def f_turn : Fn := ⟨[.v, .v, .v], 4, (.cons (.asg 3 (.idx (.call 11 (.val (.call 6 (.lend 0 (.lend 1 .nil))) (.val (.call 6 (.lend 0 (.lend 2 .nil))) .nil))) (.con (.int 0)))) (.cons (.ret (.bin .sub (.bi .int (.cons (.cmp .gt (.var 3) (.con (.int 0))) .nil)) (.bi .int (.cons (.cmp .lt (.var 3) (.con (.int 0))) .nil)))) .nil))⟩
-- 15 faces steps k face j step
def b_steps_of_2 : Ss := (.cons (.asg 5 (.tup (.cons (.idx (.var 3) (.bin .sub (.var 4) (.con (.int 1)))) (.cons (.idx (.var 3) (.var 4)) .nil)))) (.cons (.ifs (.cmp .isIn (.var 5) (.var 1)) (.cons (.rse .NoDrawing) .nil) .nil) (.cons (.seti 1 (.var 5) (.var 2)) .nil)))
def b_steps_of_1 : Ss := (.cons (.asg 3 (.idx (.var 0) (.var 2))) (.cons (.loop false [4] (.rng (.cons (.bi .len (.cons (.var 3) .nil)) .nil)) b_steps_of_2) .nil))
def f_steps_of : Fn := ⟨[.v], 6, (.cons (.asg 1 (.newd true)) (.cons (.loop false [2] (.rng (.cons (.bi .len (.cons (.var 0) .nil)) .nil)) b_steps_of_1) (.cons (.ret (.var 1)) .nil)))⟩
-- 16 steps onward step ring
abbrev fuel_f_ring_of : Vm.Env → Nat := fun _ => 64
def w_ring_of_1 : E := (.bop true (.cons (.cmp .ne (.mth .get (.var 1) (.cons (.idx (.var 3) (.neg (.con (.int 1)))) (.cons (.idx (.var 3) (.con (.int 0))) .nil))) (.idx (.var 3) (.con (.int 0)))) (.cons (.cmp .le (.bi .len (.cons (.var 3) .nil)) (.bi .len (.cons (.var 1) .nil))) .nil)))
def b_ring_of_1 : Ss := (.cons (.app 3 (.idx (.var 1) (.idx (.var 3) (.neg (.con (.int 1)))))) .nil)
def b_ring_of_2 : Ss := (.cons (.ifs (.cmp .notIn (.tup (.cons (.idx (.var 2) (.con (.int 1))) (.cons (.idx (.var 2) (.con (.int 0))) .nil))) (.var 0)) (.cons (.ifs (.cmp .isIn (.idx (.var 2) (.con (.int 0))) (.var 1)) (.cons (.rse .NoDrawing) .nil) .nil) (.cons (.seti 1 (.idx (.var 2) (.con (.int 0))) (.idx (.var 2) (.con (.int 1)))) .nil)) .nil) .nil)
def f_ring_of : Fn := ⟨[.v], 4, (.cons (.asg 1 (.newd false)) (.cons (.loop false [2] (.ex (.bi .list (.cons (.var 0) .nil))) b_ring_of_2) (.cons (.ifs (.cmp .eq (.bi .len (.cons (.var 1) .nil)) (.con (.int 0))) (.cons (.rse .NoDrawing) .nil) .nil) (.cons (.asg 3 (.lst (.cons (.bi .min (.cons (.bi .list (.cons (.var 1) .nil)) .nil)) .nil))) (.cons (.whl fuel_f_ring_of w_ring_of_1 b_ring_of_1) (.cons (.ifs (.bop false (.cons (.cmp .ne (.bi .len (.cons (.var 3) .nil)) (.bi .len (.cons (.var 1) .nil))) (.cons (.cmp .ne (.mth .get (.var 1) (.cons (.idx (.var 3) (.neg (.con (.int 1)))) (.cons (.neg (.con (.int 1))) .nil))) (.idx (.var 3) (.con (.int 0)))) .nil))) (.cons (.rse .NoDrawing) .nil) .nil) (.cons (.ret (.bi .tuple (.cons (.var 3) .nil))) .nil)))))))⟩
-- 18 drawing
def f_outer_ring : Fn := ⟨[.v], 1, (.cons (.ret (.call 16 (.val (.call 15 (.val (.idx (.var 0) (.con (.int 1))) .nil)) .nil))) .nil)⟩
-- 20 drawing steps step
def e_inner_edges_1 : E := (.var 2)
def t_inner_edges_1 : Eo := .some (.bop true (.cons (.cmp .lt (.idx (.var 2) (.con (.int 0))) (.idx (.var 2) (.con (.int 1)))) (.cons (.cmp .isIn (.tup (.cons (.idx (.var 2) (.con (.int 1))) (.cons (.idx (.var 2) (.con (.int 0))) .nil))) (.var 1)) .nil)))
def f_inner_edges : Fn := ⟨[.v], 3, (.cons (.asg 1 (.call 15 (.val (.idx (.var 0) (.con (.int 1))) .nil))) (.cons (.ret (.bi .sorted (.cons (.comp e_inner_edges_1 false [2] (.ex (.bi .list (.cons (.var 1) .nil))) t_inner_edges_1) .nil))) .nil))⟩
-- 37 script k cell
def f_law_draws : Fn := ⟨[.v, .v], 3, (.cons (.asg 2 (.bin .mul (.con (.int 15485863)) (.var 1))) (.cons (.ifs (.cmp .lt (.var 1) (.bi .len (.cons (.var 0) .nil))) (.cons (.asg 2 (.bin .mod (.idx (.var 0) (.var 1)) (.bin .mul (.bin .pow (.con (.int 10)) (.con (.int 60))) (.bin .pow (.con (.int 10)) (.con (.int 60)))))) .nil) (.cons (.ifs (.cmp .gt (.bi .len (.cons (.var 0) .nil)) (.con (.int 0))) (.cons (.asg 2 (.bin .add (.bin .mod (.idx (.var 0) (.bin .mod (.var 1) (.bi .len (.cons (.var 0) .nil)))) (.bin .pow (.con (.int 10)) (.con (.int 15)))) (.bin .mul (.con (.int 15485863)) (.var 1)))) .nil) .nil) .nil)) (.cons (.ret (.lst (.cons (.bin .mul (.var 2) (.bi .int (.cons (.cmp .ge (.var 2) (.bin .pow (.con (.int 10)) (.con (.int 18)))) .nil))) (.cons (.bin .add (.con (.int 1)) (.bin .mod (.bin .add (.bin .mul (.var 2) (.con (.int 69621))) (.bin .mul (.con (.int 86028121)) (.bin .add (.var 1) (.con (.int 1))))) (.con (.int 2147483646)))) .nil)))) .nil)))⟩
-- 38 draws many found
def f_law_draw : Fn := ⟨[.r, .v], 3, (.cons (.ifs (.cmp .gt (.idx (.var 0) (.con (.int 0))) (.con (.int 0))) (.cons (.asg 2 (.bin .mod (.idx (.var 0) (.con (.int 0))) (.var 1))) (.cons (.seti 0 (.con (.int 0)) (.bin .fdiv (.idx (.var 0) (.con (.int 0))) (.var 1))) (.cons (.ret (.var 2)) .nil))) .nil) (.cons (.seti 0 (.con (.int 1)) (.bin .mod (.bin .mul (.idx (.var 0) (.con (.int 1))) (.con (.int 69621))) (.con (.int 2147483647)))) (.cons (.ret (.bin .mod (.bin .fdiv (.bin .mod (.bin .mul (.idx (.var 0) (.con (.int 1))) (.bin .add (.bin .fdiv (.idx (.var 0) (.con (.int 1))) (.con (.int 128))) (.con (.int 3)))) (.con (.int 2147483629))) (.con (.int 8))) (.var 1))) .nil)))⟩
-- 39 one other
abbrev fuel_f_law_common : Vm.Env → Nat := gcdFuel 1
def w_law_common_1 : E := (.cmp .gt (.var 1) (.con (.int 0)))
def b_law_common_1 : Ss := (.cons (.par 0 1 (.var 1) (.bin .mod (.var 0) (.var 1))) .nil)
def f_law_common : Fn := ⟨[.v, .v], 2, (.cons (.asg 0 (.bi .abs (.cons (.var 0) .nil))) (.cons (.asg 1 (.bi .abs (.cons (.var 1) .nil))) (.cons (.whl fuel_f_law_common w_law_common_1 b_law_common_1) (.cons (.ret (.var 0)) .nil))))⟩
-- 40 top bottom many
def f_law_low : Fn := ⟨[.v, .v], 3, (.cons (.asg 2 (.bin .mul (.call 39 (.lend 0 (.lend 1 .nil))) (.idx (.lst (.cons (.con (.int 1)) (.cons (.neg (.con (.int 1))) .nil))) (.bi .int (.cons (.cmp .lt (.var 1) (.con (.int 0))) .nil))))) (.cons (.ret (.tup (.cons (.bin .fdiv (.var 0) (.var 2)) (.cons (.bin .fdiv (.var 1) (.var 2)) .nil)))) .nil))⟩
-- 41 draws most number k
def b_law_figures_1 : Ss := (.cons (.asg 2 (.bin .add (.bin .mul (.var 2) (.bin .pow (.con (.int 10)) (.con (.int 6)))) (.call 38 (.ref 0 (.val (.bin .pow (.con (.int 10)) (.con (.int 6))) .nil))))) .nil)
def f_law_figures : Fn := ⟨[.r, .v], 4, (.cons (.asg 2 (.call 38 (.ref 0 (.val (.bin .pow (.con (.int 10)) (.con (.int 6))) .nil)))) (.cons (.loop false [3] (.rng (.cons (.call 38 (.ref 0 (.lend 1 .nil))) .nil)) b_law_figures_1) (.cons (.ret (.idx (.lst (.cons (.var 2) (.cons (.bin .sub (.con (.int 0)) (.var 2)) (.cons (.bin .sub (.bin .mod (.var 2) (.con (.int 7))) (.con (.int 3))) .nil)))) (.call 38 (.ref 0 (.val (.con (.int 3)) .nil))))) .nil)))⟩
-- 42 one other
def f_law_sum : Fn := ⟨[.v, .v], 2, (.cons (.ret (.call 40 (.val (.bin .add (.bin .mul (.idx (.var 0) (.con (.int 0))) (.idx (.var 1) (.con (.int 1)))) (.bin .mul (.idx (.var 1) (.con (.int 0))) (.idx (.var 0) (.con (.int 1))))) (.val (.bin .mul (.idx (.var 0) (.con (.int 1))) (.idx (.var 1) (.con (.int 1)))) .nil)))) .nil)⟩
-- 43 one other
def f_law_times : Fn := ⟨[.v, .v], 2, (.cons (.ret (.call 40 (.val (.bin .mul (.idx (.var 0) (.con (.int 0))) (.idx (.var 1) (.con (.int 0)))) (.val (.bin .mul (.idx (.var 0) (.con (.int 1))) (.idx (.var 1) (.con (.int 1)))) .nil)))) .nil)⟩
-- 44 points draws lean rise wide away aside made x y
def b_law_put_1 : Ss := (.cons (.asg 8 (.call 42 (.lend 8 (.val (.call 43 (.lend 2 (.lend 9 .nil))) .nil)))) (.cons (.asg 9 (.call 42 (.lend 9 (.val (.call 43 (.lend 3 (.lend 8 .nil))) .nil)))) (.cons (.app 7 (.tup (.cons (.call 42 (.val (.call 43 (.lend 8 (.lend 4 .nil))) (.val (.idx (.var 6) (.con (.int 0))) .nil))) (.cons (.call 42 (.val (.call 43 (.lend 9 (.lend 4 .nil))) (.val (.idx (.var 6) (.con (.int 1))) .nil))) .nil)))) .nil)))
def f_law_put : Fn := ⟨[.v, .r], 10, (.cons (.asg 2 (.tup (.cons (.bin .sub (.call 38 (.ref 1 (.val (.con (.int 7)) .nil))) (.con (.int 3))) (.cons (.con (.int 1)) .nil)))) (.cons (.asg 3 (.tup (.cons (.bin .sub (.call 38 (.ref 1 (.val (.con (.int 5)) .nil))) (.con (.int 2))) (.cons (.con (.int 1)) .nil)))) (.cons (.asg 4 (.tup (.cons (.idx (.lst (.cons (.con (.int 1)) (.cons (.con (.int 1)) (.cons (.con (.int 2)) (.cons (.bin .pow (.con (.int 10)) (.con (.int 9))) .nil))))) (.call 38 (.ref 1 (.val (.con (.int 4)) .nil)))) (.cons (.idx (.lst (.cons (.con (.int 1)) (.cons (.con (.int 1)) (.cons (.con (.int 3)) .nil)))) (.call 38 (.ref 1 (.val (.con (.int 3)) .nil)))) .nil)))) (.cons (.asg 4 (.call 40 (.val (.idx (.var 4) (.con (.int 0))) (.val (.idx (.var 4) (.con (.int 1))) .nil)))) (.cons (.asg 5 (.lst (.cons (.tup (.cons (.con (.int 0)) (.cons (.con (.int 1)) .nil))) (.cons (.tup (.cons (.call 41 (.ref 1 (.val (.con (.int 3)) .nil))) (.cons (.con (.int 1)) .nil))) (.cons (.call 40 (.val (.bin .sub (.call 38 (.ref 1 (.val (.con (.int 99)) .nil))) (.con (.int 40))) (.val (.con (.int 7)) .nil))) .nil))))) (.cons (.asg 6 (.lst (.cons (.idx (.var 5) (.call 38 (.ref 1 (.val (.con (.int 3)) .nil)))) (.cons (.idx (.var 5) (.call 38 (.ref 1 (.val (.con (.int 3)) .nil)))) .nil)))) (.cons (.asg 7 (.lst .nil)) (.cons (.loop true [8, 9] (.own 0) b_law_put_1) (.cons (.ret (.var 7)) .nil)))))))))⟩
-- 45 step many
def f_law_often : Fn := ⟨[.v, .v], 2, (.cons (.ret (.tup (.cons (.call 43 (.val (.idx (.var 0) (.con (.int 0))) (.lend 1 .nil))) (.cons (.call 43 (.val (.idx (.var 0) (.con (.int 1))) (.lend 1 .nil))) .nil)))) .nil)⟩
-- 46 one other
def f_law_less : Fn := ⟨[.v, .v], 2, (.cons (.ret (.call 40 (.val (.bin .sub (.bin .mul (.idx (.var 0) (.con (.int 0))) (.idx (.var 1) (.con (.int 1)))) (.bin .mul (.idx (.var 1) (.con (.int 0))) (.idx (.var 0) (.con (.int 1))))) (.val (.bin .mul (.idx (.var 0) (.con (.int 1))) (.idx (.var 1) (.con (.int 1)))) .nil)))) .nil)⟩
-- 47 one other
def f_law_step : Fn := ⟨[.v, .v], 2, (.cons (.ret (.tup (.cons (.call 46 (.val (.idx (.var 1) (.con (.int 0))) (.val (.idx (.var 0) (.con (.int 0))) .nil))) (.cons (.call 46 (.val (.idx (.var 1) (.con (.int 1))) (.val (.idx (.var 0) (.con (.int 1))) .nil))) .nil)))) .nil)⟩
-- 48 spot step
def f_law_far : Fn := ⟨[.v, .v], 2, (.cons (.ret (.tup (.cons (.call 42 (.val (.idx (.var 0) (.con (.int 0))) (.val (.idx (.var 1) (.con (.int 0))) .nil))) (.cons (.call 42 (.val (.idx (.var 0) (.con (.int 1))) (.val (.idx (.var 1) (.con (.int 1))) .nil))) .nil)))) .nil)⟩
-- 49 draws way points k rim at near onward ends x y
def b_law_rim_1 : Ss := (.cons (.asg 5 (.call 38 (.ref 0 (.val (.bi .len (.cons (.var 2) .nil)) .nil)))) (.cons (.ifs (.cmp .lt (.bi .len (.cons (.var 2) .nil)) (.con (.int 8))) (.cons (.asg 6 (.call 45 (.val (.call 47 (.val (.idx (.var 2) (.var 5)) (.val (.idx (.var 2) (.bin .sub (.var 5) (.con (.int 1)))) .nil))) (.val (.tup (.cons (.con (.int 1)) (.cons (.bin .add (.con (.int 3)) (.call 38 (.ref 0 (.val (.con (.int 3)) .nil)))) .nil))) .nil)))) (.cons (.asg 7 (.call 47 (.val (.idx (.var 2) (.var 5)) (.val (.idx (.var 2) (.bin .mod (.bin .add (.var 5) (.con (.int 1))) (.bi .len (.cons (.var 2) .nil)))) .nil)))) (.cons (.asg 8 (.lst (.cons (.call 48 (.val (.idx (.var 2) (.var 5)) (.lend 6 .nil))) (.cons (.call 48 (.val (.idx (.var 2) (.var 5)) (.val (.call 45 (.lend 7 (.val (.tup (.cons (.con (.int 1)) (.cons (.bin .add (.con (.int 3)) (.call 38 (.ref 0 (.val (.con (.int 3)) .nil)))) .nil))) .nil))) .nil))) .nil)))) (.cons (.asg 2 (.bin .add (.bin .add (.slc (.var 2) .none (.some (.var 5))) (.var 8)) (.slc (.var 2) (.some (.bin .add (.var 5) (.con (.int 1)))) .none))) .nil)))) .nil) .nil))
def e_law_rim_1 : E := (.tup (.cons (.tup (.cons (.var 9) (.cons (.con (.int 1)) .nil))) (.cons (.tup (.cons (.var 10) (.cons (.con (.int 1)) .nil))) .nil)))
def e_law_rim_2 : E := (.tup (.cons (.var 3) (.cons (.bin .mul (.var 3) (.var 3)) .nil)))
def f_law_rim : Fn := ⟨[.r], 11, (.cons (.asg 1 (.call 38 (.ref 0 (.val (.con (.int 4)) .nil)))) (.cons (.ifs (.cmp .eq (.var 1) (.con (.int 0))) (.cons (.asg 4 (.lst (.cons (.tup (.cons (.con (.int 0)) (.cons (.con (.int 0)) .nil))) (.cons (.tup (.cons (.con (.int 12)) (.cons (.con (.int 0)) .nil))) (.cons (.tup (.cons (.call 38 (.ref 0 (.val (.con (.int 13)) .nil))) (.cons (.con (.int 6)) .nil))) .nil))))) .nil) (.cons (.ifs (.cmp .eq (.var 1) (.con (.int 1))) (.cons (.asg 4 (.lst (.cons (.tup (.cons (.con (.int 0)) (.cons (.con (.int 0)) .nil))) (.cons (.tup (.cons (.bin .add (.con (.int 9)) (.call 38 (.ref 0 (.val (.con (.int 4)) .nil)))) (.cons (.con (.int 0)) .nil))) (.cons (.tup (.cons (.con (.int 8)) (.cons (.bin .add (.con (.int 7)) (.call 38 (.ref 0 (.val (.con (.int 4)) .nil)))) .nil))) (.cons (.tup (.cons (.neg (.con (.int 1))) (.cons (.con (.int 8)) .nil))) .nil)))))) .nil) (.cons (.asg 4 (.comp e_law_rim_2 false [3] (.rng (.cons (.bin .add (.con (.int 3)) (.call 38 (.ref 0 (.val (.con (.int 6)) .nil)))) .nil)) .none)) .nil)) .nil)) (.cons (.asg 2 (.comp e_law_rim_1 true [9, 10] (.own 4) .none)) (.cons (.loop false [3] (.rng (.cons (.idx (.lst (.cons (.con (.int 0)) (.cons (.con (.int 0)) (.cons (.con (.int 1)) (.cons (.con (.int 2)) .nil))))) (.call 38 (.ref 0 (.val (.con (.int 4)) .nil)))) .nil)) b_law_rim_1) (.cons (.ret (.var 2)) .nil)))))⟩
-- 50 points faces at spot face made j
def e_law_poked_1 : E := (.tup (.cons (.idx (.var 4) (.bin .sub (.var 6) (.con (.int 1)))) (.cons (.idx (.var 4) (.var 6)) (.cons (.bi .len (.cons (.var 0) .nil)) .nil))))
def f_law_poked : Fn := ⟨[.v, .v, .v, .v], 7, (.cons (.asg 4 (.idx (.var 1) (.var 2))) (.cons (.asg 5 (.comp e_law_poked_1 false [6] (.rng (.cons (.bi .len (.cons (.var 4) .nil)) .nil)) .none)) (.cons (.ret (.lst (.cons (.bin .add (.var 0) (.lst (.cons (.var 3) .nil))) (.cons (.bin .add (.bin .add (.slc (.var 1) .none (.some (.var 2))) (.var 5)) (.slc (.var 1) (.some (.bin .add (.var 2) (.con (.int 1)))) .none)) .nil)))) .nil)))⟩
-- 51 points face draws total spot corner weight
def b_law_inside_1 : Ss := (.cons (.asg 6 (.bin .add (.con (.int 1)) (.call 38 (.ref 2 (.val (.con (.int 4)) .nil))))) (.cons (.asg 3 (.bin .add (.var 3) (.var 6))) (.cons (.asg 4 (.call 48 (.lend 4 (.val (.call 45 (.val (.idx (.var 0) (.var 5)) (.val (.tup (.cons (.var 6) (.cons (.con (.int 1)) .nil))) .nil))) .nil)))) .nil)))
def f_law_inside : Fn := ⟨[.v, .v, .r], 7, (.cons (.asg 3 (.con (.int 0))) (.cons (.asg 4 (.tup (.cons (.tup (.cons (.con (.int 0)) (.cons (.con (.int 1)) .nil))) (.cons (.tup (.cons (.con (.int 0)) (.cons (.con (.int 1)) .nil))) .nil)))) (.cons (.loop false [5] (.own 1) b_law_inside_1) (.cons (.ret (.call 45 (.lend 4 (.val (.tup (.cons (.con (.int 1)) (.cons (.var 3) .nil))) .nil)))) .nil))))⟩
-- 52 faces found k rows step j back
def b_law_sides_1 : Ss := (.cons (.asg 6 (.tup (.cons (.idx (.var 4) (.con (.int 1))) (.cons (.idx (.var 4) (.con (.int 0))) .nil)))) (.cons (.ifs (.bop true (.cons (.cmp .lt (.idx (.var 4) (.con (.int 0))) (.idx (.var 4) (.con (.int 1)))) (.cons (.cmp .isIn (.var 6) (.var 1)) .nil))) (.cons (.app 3 (.bin .add (.var 4) (.tup (.cons (.idx (.var 1) (.var 4)) (.cons (.idx (.var 1) (.var 6)) .nil))))) .nil) .nil) .nil))
def b_law_sides_3 : Ss := (.cons (.seti 1 (.tup (.cons (.idx (.idx (.var 0) (.var 2)) (.bin .sub (.var 5) (.con (.int 1)))) (.cons (.idx (.idx (.var 0) (.var 2)) (.var 5)) .nil))) (.var 2)) .nil)
def b_law_sides_2 : Ss := (.cons (.loop false [5] (.rng (.cons (.bi .len (.cons (.idx (.var 0) (.var 2)) .nil)) .nil)) b_law_sides_3) .nil)
def f_law_sides : Fn := ⟨[.v], 7, (.cons (.asg 1 (.newd true)) (.cons (.loop false [2] (.rng (.cons (.bi .len (.cons (.var 0) .nil)) .nil)) b_law_sides_2) (.cons (.asg 3 (.lst .nil)) (.cons (.loop false [4] (.ex (.bi .sorted (.cons (.bi .list (.cons (.var 1) .nil)) .nil))) b_law_sides_1) (.cons (.ret (.var 3)) .nil)))))⟩
-- 53 one other faces left right first second at back
def f_law_joined : Fn := ⟨[.v, .v, .v, .v, .v], 9, (.cons (.asg 5 (.idx (.var 2) (.var 3))) (.cons (.asg 6 (.idx (.var 2) (.var 4))) (.cons (.asg 7 (.mth .index (.var 5) (.cons (.var 1) .nil))) (.cons (.asg 8 (.mth .index (.var 6) (.cons (.var 0) .nil))) (.cons (.asg 5 (.bin .add (.slc (.var 5) (.some (.var 7)) .none) (.slc (.var 5) .none (.some (.var 7))))) (.cons (.asg 6 (.bin .add (.slc (.var 6) (.some (.var 8)) .none) (.slc (.var 6) .none (.some (.var 8))))) (.cons (.ret (.bin .add (.var 5) (.slc (.var 6) (.some (.con (.int 1))) (.some (.neg (.con (.int 1))))))) .nil)))))))⟩
-- 54 one other
def f_law_cross : Fn := ⟨[.v, .v], 2, (.cons (.ret (.call 46 (.val (.call 43 (.val (.idx (.var 0) (.con (.int 0))) (.val (.idx (.var 1) (.con (.int 1))) .nil))) (.val (.call 43 (.val (.idx (.var 0) (.con (.int 1))) (.val (.idx (.var 1) (.con (.int 0))) .nil))) .nil)))) .nil)⟩
-- 55 one other third top
def f_law_hand : Fn := ⟨[.v, .v, .v], 4, (.cons (.asg 3 (.idx (.call 54 (.val (.call 47 (.lend 0 (.lend 1 .nil))) (.val (.call 47 (.lend 0 (.lend 2 .nil))) .nil))) (.con (.int 0)))) (.cons (.ret (.bin .sub (.bi .int (.cons (.cmp .gt (.var 3) (.con (.int 0))) .nil)) (.bi .int (.cons (.cmp .lt (.var 3) (.con (.int 0))) .nil)))) .nil))⟩
-- 56 points ring k one other n
def b_law_bayless_2 : Ss := (.cons (.ifs (.bop true (.cons (.cmp .ne (.var 5) (.idx (.var 1) (.bin .sub (.var 2) (.con (.int 1))))) (.cons (.cmp .ne (.var 5) (.idx (.var 1) (.var 2))) (.cons (.cmp .ne (.call 55 (.lend 3 (.lend 4 (.val (.idx (.var 0) (.var 5)) .nil)))) (.con (.int 1))) .nil)))) (.cons (.ret (.con (.bl false))) .nil) .nil) .nil)
def b_law_bayless_1 : Ss := (.cons (.asg 3 (.idx (.var 0) (.idx (.var 1) (.bin .sub (.var 2) (.con (.int 1)))))) (.cons (.asg 4 (.idx (.var 0) (.idx (.var 1) (.var 2)))) (.cons (.loop false [5] (.own 1) b_law_bayless_2) .nil)))
def f_law_bayless : Fn := ⟨[.v, .v], 6, (.cons (.ifs (.bop false (.cons (.cmp .lt (.bi .len (.cons (.var 1) .nil)) (.con (.int 3))) (.cons (.cmp .ne (.lset (.var 1)) (.bi .len (.cons (.var 1) .nil))) .nil))) (.cons (.ret (.con (.bl false))) .nil) .nil) (.cons (.loop false [2] (.rng (.cons (.bi .len (.cons (.var 1) .nil)) .nil)) b_law_bayless_1) (.cons (.ret (.con (.bl true))) .nil)))⟩
-- 59 points faces draws order k place made face begin ring corner
def e_law_renumbered_1 : E := (.idx (.var 0) (.var 4))
def e_law_renumbered_2 : E := (.idx (.var 5) (.var 10))
def b_law_renumbered_1 : Ss := (.cons (.asg 8 (.call 38 (.ref 2 (.val (.bi .len (.cons (.var 7) .nil)) .nil)))) (.cons (.asg 9 (.bi .tuple (.cons (.comp e_law_renumbered_2 false [10] (.own 7) .none) .nil))) (.cons (.ins 6 (.call 38 (.ref 2 (.val (.bin .add (.bi .len (.cons (.var 6) .nil)) (.con (.int 1))) .nil))) (.bin .add (.slc (.var 9) (.some (.var 8)) .none) (.slc (.var 9) .none (.some (.var 8))))) .nil)))
def b_law_renumbered_2 : Ss := (.cons (.seti 5 (.idx (.var 3) (.var 4)) (.var 4)) .nil)
def b_law_renumbered_3 : Ss := (.cons (.ins 3 (.call 38 (.ref 2 (.val (.bin .add (.var 4) (.con (.int 1))) .nil))) (.var 4)) .nil)
def f_law_renumbered : Fn := ⟨[.v, .v, .r], 11, (.cons (.asg 3 (.lst .nil)) (.cons (.loop false [4] (.rng (.cons (.bi .len (.cons (.var 0) .nil)) .nil)) b_law_renumbered_3) (.cons (.asg 5 (.newd false)) (.cons (.loop false [4] (.rng (.cons (.bi .len (.cons (.var 3) .nil)) .nil)) b_law_renumbered_2) (.cons (.asg 6 (.lst .nil)) (.cons (.loop false [7] (.own 1) b_law_renumbered_1) (.cons (.ret (.lst (.cons (.comp e_law_renumbered_1 false [4] (.own 3) .none) (.cons (.var 6) .nil)))) .nil)))))))⟩
-- 60 face at
def f_law_from_least : Fn := ⟨[.v], 2, (.cons (.asg 1 (.mth .index (.var 0) (.cons (.bi .min (.cons (.var 0) .nil)) .nil))) (.cons (.ret (.bi .tuple (.cons (.bin .add (.slc (.var 0) (.some (.var 1)) .none) (.slc (.var 0) .none (.some (.var 1)))) .nil))) .nil))⟩
-- 61 points faces face
def e_law_due_1 : E := (.call 60 (.lend 2 .nil))
def f_law_due : Fn := ⟨[.v, .v], 3, (.cons (.ret (.tup (.cons (.bi .tuple (.cons (.var 0) .nil)) (.cons (.bi .tuple (.cons (.bi .sorted (.cons (.comp e_law_due_1 false [2] (.own 1) .none) .nil)) .nil)) .nil)))) .nil)⟩
-- 63 drawing one other steps
def f_wings : Fn := ⟨[.v, .v, .v], 4, (.cons (.asg 3 (.call 15 (.val (.idx (.var 0) (.con (.int 1))) .nil))) (.cons (.ifs (.bop false (.cons (.cmp .notIn (.tup (.cons (.var 1) (.cons (.var 2) .nil))) (.var 3)) (.cons (.cmp .notIn (.tup (.cons (.var 2) (.cons (.var 1) .nil))) (.var 3)) .nil))) (.cons (.rse .NoEdge) .nil) .nil) (.cons (.ret (.tup (.cons (.idx (.var 3) (.tup (.cons (.var 1) (.cons (.var 2) .nil)))) (.cons (.idx (.var 3) (.tup (.cons (.var 2) (.cons (.var 1) .nil)))) .nil)))) .nil)))⟩
-- 64 drawing motion one other
def f_lengthening : Fn := ⟨[.v, .v, .v, .v], 4, (.cons (.ifs (.cmp .ne (.bi .len (.cons (.var 1) .nil)) (.bi .len (.cons (.idx (.var 0) (.con (.int 0))) .nil))) (.cons (.rse .Unlike) .nil) .nil) (.cons (.xpr (.call 63 (.lend 0 (.lend 2 (.lend 3 .nil))))) (.cons (.ret (.call 10 (.val (.call 6 (.val (.idx (.idx (.var 0) (.con (.int 0))) (.var 2)) (.val (.idx (.idx (.var 0) (.con (.int 0))) (.var 3)) .nil))) (.val (.call 6 (.val (.idx (.var 1) (.var 2)) (.val (.idx (.var 1) (.var 3)) .nil))) .nil)))) .nil)))⟩
-- 65 drawing motion corner tops edge
def e_is_slack_1 : E := (.idx (.call 64 (.lend 0 (.lend 1 (.val (.idx (.var 4) (.con (.int 0))) (.val (.idx (.var 4) (.con (.int 1))) .nil))))) (.con (.int 0)))
def b_is_slack_1 : Ss := (.cons (.ifs (.cmp .ne (.idx (.var 1) (.var 2)) (.tup (.cons (.tup (.cons (.con (.int 0)) (.cons (.con (.int 1)) .nil))) (.cons (.tup (.cons (.con (.int 0)) (.cons (.con (.int 1)) .nil))) .nil)))) (.cons (.ret (.con (.bl false))) .nil) .nil) .nil)
def f_is_slack : Fn := ⟨[.v, .v], 5, (.cons (.ifs (.cmp .ne (.bi .len (.cons (.var 1) .nil)) (.bi .len (.cons (.idx (.var 0) (.con (.int 0))) .nil))) (.cons (.rse .Unlike) .nil) .nil) (.cons (.loop false [2] (.ex (.call 18 (.lend 0 .nil))) b_is_slack_1) (.cons (.asg 3 (.comp e_is_slack_1 false [4] (.ex (.call 20 (.lend 0 .nil))) .none)) (.cons (.ret (.bop true (.cons (.cmp .le (.bid .max (.var 3) (.con (.int 0))) (.con (.int 0))) (.cons (.cmp .lt (.bid .min (.var 3) (.con (.int 0))) (.con (.int 0))) .nil)))) .nil))))⟩
-- 66 faces steps face onward step ring k j
def b_law_rim_of_1 : Ss := (.cons (.app 5 (.idx (.var 3) (.idx (.var 5) (.neg (.con (.int 1)))))) .nil)
def b_law_rim_of_2 : Ss := (.cons (.ifs (.cmp .notIn (.tup (.cons (.idx (.var 4) (.con (.int 1))) (.cons (.idx (.var 4) (.con (.int 0))) .nil))) (.var 1)) (.cons (.seti 3 (.idx (.var 4) (.con (.int 0))) (.idx (.var 4) (.con (.int 1)))) .nil) .nil) .nil)
def b_law_rim_of_4 : Ss := (.cons (.seti 1 (.tup (.cons (.idx (.var 2) (.bin .sub (.var 7) (.con (.int 1)))) (.cons (.idx (.var 2) (.var 7)) .nil))) (.con (.bl true))) .nil)
def b_law_rim_of_3 : Ss := (.cons (.loop false [7] (.rng (.cons (.bi .len (.cons (.var 2) .nil)) .nil)) b_law_rim_of_4) .nil)
def f_law_rim_of : Fn := ⟨[.v], 8, (.cons (.asg 1 (.newd true)) (.cons (.loop false [2] (.own 0) b_law_rim_of_3) (.cons (.asg 3 (.newd false)) (.cons (.loop false [4] (.ex (.bi .list (.cons (.var 1) .nil))) b_law_rim_of_2) (.cons (.asg 5 (.lst (.cons (.bi .min (.cons (.bi .list (.cons (.var 3) .nil)) .nil)) .nil))) (.cons (.loop false [6] (.rng (.cons (.bin .sub (.bi .len (.cons (.var 3) .nil)) (.con (.int 1))) .nil)) b_law_rim_of_1) (.cons (.ret (.bi .tuple (.cons (.var 5) .nil))) .nil)))))))⟩
-- 67 points faces rim k
def e_law_inner_1 : E := (.var 3)
def t_law_inner_1 : Eo := .some (.cmp .notIn (.var 3) (.var 2))
def f_law_inner : Fn := ⟨[.v, .v], 4, (.cons (.asg 2 (.call 66 (.lend 1 .nil))) (.cons (.ret (.comp e_law_inner_1 false [3] (.rng (.cons (.bi .len (.cons (.var 0) .nil)) .nil)) t_law_inner_1)) .nil))⟩
-- 68 one other
def f_law_dot : Fn := ⟨[.v, .v], 2, (.cons (.ret (.call 42 (.val (.call 43 (.val (.idx (.var 0) (.con (.int 0))) (.val (.idx (.var 1) (.con (.int 0))) .nil))) (.val (.call 43 (.val (.idx (.var 0) (.con (.int 1))) (.val (.idx (.var 1) (.con (.int 1))) .nil))) .nil)))) .nil)⟩
-- 69 points motion one other
def f_law_stretch : Fn := ⟨[.v, .v, .v, .v], 4, (.cons (.ret (.call 68 (.val (.call 47 (.val (.idx (.var 0) (.var 2)) (.val (.idx (.var 0) (.var 3)) .nil))) (.val (.call 47 (.val (.idx (.var 1) (.var 2)) (.val (.idx (.var 1) (.var 3)) .nil))) .nil)))) .nil)⟩
-- 70 which names name
def e_law_only_1 : E := (.cmp .eq (.var 2) (.var 0))
def f_law_only : Fn := ⟨[.v], 3, (.cons (.asg 1 (.lst (.cons (.con (.str "number")) (.cons (.con (.str "drawing")) (.cons (.con (.str "edge")) (.cons (.con (.str "corner")) (.cons (.con (.str "unlike")) (.cons (.con (.str "balance")) (.cons (.con (.str "roof")) (.cons (.con (.str "turned")) (.cons (.con (.str "sites")) (.cons (.con (.str "pulls")) .nil)))))))))))) (.cons (.ret (.bin .add (.comp e_law_only_1 false [2] (.ex (.bin .add (.var 1) (.lst (.cons (.con (.str "many")) (.cons (.con (.str "text")) (.cons (.con (.str "name")) (.cons (.con (.str "row")) .nil))))))) .none) (.lst (.cons (.con (.bl true)) .nil)))) .nil))⟩
-- 71 faces at draws face begin end
def f_law_cut : Fn := ⟨[.v, .v, .r], 6, (.cons (.asg 3 (.idx (.var 0) (.var 1))) (.cons (.ifs (.bop false (.cons (.cmp .lt (.bi .len (.cons (.var 3) .nil)) (.con (.int 4))) (.cons (.cmp .gt (.bi .len (.cons (.var 0) .nil)) (.con (.int 59))) .nil))) (.cons (.ret (.var 0)) .nil) .nil) (.cons (.asg 4 (.call 38 (.ref 2 (.val (.bi .len (.cons (.var 3) .nil)) .nil)))) (.cons (.asg 3 (.bin .add (.slc (.var 3) (.some (.var 4)) .none) (.slc (.var 3) .none (.some (.var 4))))) (.cons (.asg 5 (.bin .add (.con (.int 2)) (.call 38 (.ref 2 (.val (.bin .sub (.bi .len (.cons (.var 3) .nil)) (.con (.int 3))) .nil))))) (.cons (.ret (.bin .add (.bin .add (.slc (.var 0) .none (.some (.var 1))) (.lst (.cons (.slc (.var 3) .none (.some (.bin .add (.var 5) (.con (.int 1))))) (.cons (.bin .add (.slc (.var 3) (.some (.var 5)) .none) (.slc (.var 3) .none (.some (.con (.int 1))))) .nil)))) (.slc (.var 0) (.some (.bin .add (.var 1) (.con (.int 1)))) .none))) .nil))))))⟩
-- 72 points faces draws rows ring rest one other left right k
def e_law_merged_1 : E := (.idx (.var 1) (.var 10))
def t_law_merged_1 : Eo := .some (.cmp .notIn (.var 10) (.tup (.cons (.var 8) (.cons (.var 9) .nil))))
def f_law_merged : Fn := ⟨[.v, .v, .r], 11, (.cons (.asg 3 (.call 52 (.lend 1 .nil))) (.cons (.ifs (.cmp .eq (.bi .len (.cons (.var 3) .nil)) (.con (.int 0))) (.cons (.ret (.var 1)) .nil) .nil) (.cons (.unp [6, 7, 8, 9] (.idx (.var 3) (.call 38 (.ref 2 (.val (.bi .len (.cons (.var 3) .nil)) .nil))))) (.cons (.asg 4 (.call 53 (.lend 6 (.lend 7 (.lend 1 (.lend 8 (.lend 9 .nil))))))) (.cons (.ifs (.not (.call 56 (.lend 0 (.lend 4 .nil)))) (.cons (.ret (.var 1)) .nil) .nil) (.cons (.asg 5 (.comp e_law_merged_1 false [10] (.rng (.cons (.bi .len (.cons (.var 1) .nil)) .nil)) t_law_merged_1)) (.cons (.ret (.bin .add (.lst (.cons (.var 4) .nil)) (.var 5))) .nil)))))))⟩
-- 73 script first most inner draws points rim faces k at way spot
def b_law_built_1 : Ss := (.cons (.asg 4 (.call 37 (.lend 0 (.val (.bin .add (.bin .add (.var 1) (.con (.int 1))) (.var 8)) .nil)))) (.cons (.asg 9 (.call 38 (.ref 4 (.val (.bi .len (.cons (.var 7) .nil)) .nil)))) (.cons (.asg 10 (.call 38 (.ref 4 (.val (.con (.int 5)) .nil)))) (.cons (.ifs (.bop true (.cons (.cmp .lt (.var 10) (.con (.int 3))) (.cons (.cmp .lt (.bi .len (.cons (.var 5) .nil)) (.bin .add (.var 6) (.var 3))) (.cons (.cmp .lt (.bin .add (.bi .len (.cons (.var 7) .nil)) (.bi .len (.cons (.idx (.var 7) (.var 9)) .nil))) (.con (.int 62))) .nil)))) (.cons (.asg 11 (.call 51 (.lend 5 (.val (.idx (.var 7) (.var 9)) (.ref 4 .nil))))) (.cons (.unp [5, 7] (.call 50 (.lend 5 (.lend 7 (.lend 9 (.lend 11 .nil)))))) .nil)) (.cons (.ifs (.cmp .eq (.var 10) (.con (.int 3))) (.cons (.asg 7 (.call 71 (.lend 7 (.lend 9 (.ref 4 .nil))))) .nil) (.cons (.asg 7 (.call 72 (.lend 5 (.lend 7 (.ref 4 .nil))))) .nil)) .nil)) .nil))))
def f_law_built : Fn := ⟨[.v, .v, .v, .v], 12, (.cons (.asg 4 (.call 37 (.lend 0 (.lend 1 .nil)))) (.cons (.asg 5 (.call 44 (.val (.call 49 (.ref 4 .nil)) (.ref 4 .nil)))) (.cons (.asg 6 (.bi .len (.cons (.var 5) .nil))) (.cons (.asg 7 (.lst (.cons (.lrng true (.cons (.var 6) .nil)) .nil))) (.cons (.loop false [8] (.rng (.cons (.call 38 (.ref 4 (.val (.bin .add (.var 2) (.con (.int 1))) .nil))) .nil)) b_law_built_1) (.cons (.ret (.lst (.cons (.var 5) (.cons (.var 7) .nil)))) .nil))))))⟩
-- 74 script first most inner draws points faces
def f_law_drawing : Fn := ⟨[.v, .v, .v, .v], 7, (.cons (.asg 4 (.call 37 (.lend 0 (.val (.bin .add (.bin .add (.var 1) (.var 2)) (.con (.int 1))) .nil)))) (.cons (.unp [5, 6] (.call 73 (.lend 0 (.lend 1 (.lend 2 (.lend 3 .nil)))))) (.cons (.unp [5, 6] (.call 59 (.lend 5 (.lend 6 (.ref 4 .nil))))) (.cons (.ret (.call 61 (.lend 5 (.lend 6 .nil)))) .nil))))⟩
-- 75 way drawing motion one other found kinds e
def f_law_tried : Fn := ⟨[.v, .v, .v, .v, .v], 8, (.cons (.asg 5 (.con .non)) (.cons (.asg 6 (.lst .nil)) (.cons (.tryk 7 [.NoDrawing, .NoEdge, .NoNumber, .Unlike] (.cons (.ifs (.cmp .eq (.var 0) (.con (.int 0))) (.cons (.asg 5 (.call 64 (.lend 1 (.lend 2 (.lend 3 (.lend 4 .nil)))))) .nil) (.cons (.asg 5 (.call 65 (.lend 1 (.lend 2 .nil)))) .nil)) .nil) [(6, false, [some .NoNumber, some .NoDrawing, some .NoEdge, some .NoCorner]), (6, true, [some .Unlike, some .NoBalance, some .NoRoof]), (6, true, [some .NoTurned, some .NoSites, some .NoPulls]), (6, true, [some .TooMany, some .NoText, some .NoName]), (6, true, [some .NoRow, none])]) (.cons (.ret (.tup (.cons (.var 5) (.cons (.var 6) .nil)))) .nil))))⟩
-- 76 draws points faces inner way goal many motion n rim
def b_law_motion_1 : Ss := (.cons (.ifs (.cmp .eq (.var 4) (.con (.int 0))) (.cons (.seti 7 (.var 8) (.tup (.cons (.call 40 (.val (.bin .sub (.call 38 (.ref 0 (.val (.con (.int 9)) .nil))) (.con (.int 4))) (.val (.con (.int 3)) .nil))) (.cons (.tup (.cons (.call 41 (.ref 0 (.val (.con (.int 3)) .nil))) (.cons (.con (.int 1)) .nil))) .nil)))) .nil) (.cons (.ifs (.cmp .lt (.var 4) (.con (.int 4))) (.cons (.seti 7 (.var 8) (.call 45 (.val (.call 47 (.val (.idx (.var 1) (.var 8)) (.lend 5 .nil))) (.lend 6 .nil)))) .nil) .nil) .nil)) .nil)
def f_law_motion : Fn := ⟨[.r, .v, .v], 10, (.cons (.asg 3 (.call 67 (.lend 1 (.lend 2 .nil)))) (.cons (.asg 4 (.call 38 (.ref 0 (.val (.con (.int 5)) .nil)))) (.cons (.asg 5 (.idx (.var 1) (.call 38 (.ref 0 (.val (.bi .len (.cons (.var 1) .nil)) .nil))))) (.cons (.asg 6 (.call 40 (.val (.bin .sub (.call 38 (.ref 0 (.val (.con (.int 9)) .nil))) (.con (.int 3))) (.val (.bin .add (.con (.int 1)) (.call 38 (.ref 0 (.val (.con (.int 5)) .nil)))) .nil)))) (.cons (.asg 7 (.bin .mul (.lst (.cons (.tup (.cons (.tup (.cons (.con (.int 0)) (.cons (.con (.int 1)) .nil))) (.cons (.tup (.cons (.con (.int 0)) (.cons (.con (.int 1)) .nil))) .nil))) .nil)) (.bi .len (.cons (.var 1) .nil)))) (.cons (.loop false [8] (.own 3) b_law_motion_1) (.cons (.asg 9 (.call 66 (.lend 2 .nil))) (.cons (.ifs (.cmp .eq (.call 38 (.ref 0 (.val (.con (.int 4)) .nil))) (.con (.int 0))) (.cons (.seti 7 (.idx (.var 9) (.call 38 (.ref 0 (.val (.bi .len (.cons (.var 9) .nil)) .nil)))) (.tup (.cons (.tup (.cons (.call 38 (.ref 0 (.val (.con (.int 2)) .nil))) (.cons (.con (.int 1)) .nil))) (.cons (.tup (.cons (.con (.int 0)) (.cons (.con (.int 1)) .nil))) .nil)))) .nil) .nil) (.cons (.ret (.var 7)) .nil)))))))))⟩
-- 77 drawing rows motion points due row one other found kinds
def b_law_edges_right_2 : Ss := (.cons (.unp [8, 9] (.call 75 (.val (.con (.int 0)) (.lend 0 (.lend 2 (.lend 6 (.lend 7 .nil))))))) (.cons (.ifs (.cmp .isIn (.tup (.cons (.var 6) (.cons (.var 7) .nil))) (.var 4)) (.cons (.ifs (.bop false (.cons (.cmp .ne (.var 9) (.lst .nil)) (.cons (.cmp .ne (.var 8) (.idx (.var 4) (.tup (.cons (.var 6) (.cons (.var 7) .nil))))) .nil))) (.cons (.ret (.con (.bl false))) .nil) .nil) .nil) (.cons (.ifs (.cmp .ne (.var 9) (.call 70 (.val (.con (.str "edge")) .nil))) (.cons (.ret (.con (.bl false))) .nil) .nil) .nil)) .nil))
def b_law_edges_right_1 : Ss := (.cons (.loop false [7] (.ex (.bin .add (.lrng false (.cons (.bi .len (.cons (.var 3) .nil)) .nil)) (.lst (.cons (.bi .len (.cons (.var 3) .nil)) .nil)))) b_law_edges_right_2) .nil)
def b_law_edges_right_3 : Ss := (.cons (.seti 4 (.slc (.var 5) .none (.some (.con (.int 2)))) (.call 69 (.lend 3 (.lend 2 (.val (.idx (.var 5) (.con (.int 0))) (.val (.idx (.var 5) (.con (.int 1))) .nil)))))) (.cons (.seti 4 (.tup (.cons (.idx (.var 5) (.con (.int 1))) (.cons (.idx (.var 5) (.con (.int 0))) .nil))) (.idx (.var 4) (.slc (.var 5) .none (.some (.con (.int 2)))))) .nil))
def f_law_edges_right : Fn := ⟨[.v, .v, .v], 10, (.cons (.asg 3 (.idx (.var 0) (.con (.int 0)))) (.cons (.asg 4 (.newd true)) (.cons (.loop false [5] (.own 1) b_law_edges_right_3) (.cons (.loop false [6] (.ex (.bin .add (.lrng false (.cons (.bi .len (.cons (.var 3) .nil)) .nil)) (.lst (.cons (.neg (.con (.int 1))) .nil)))) b_law_edges_right_1) (.cons (.ret (.con (.bl true))) .nil)))))⟩
-- 78 script drawing rows rim k odd points faces motion handed tops still way found kinds row n
def b_law_k71_2 : Ss := (.cons (.ifs (.cmp .ne (.call 75 (.lend 12 (.lend 1 (.lend 5 (.val (.con (.int 0)) (.val (.con (.int 0)) .nil)))))) (.tup (.cons (.con .non) (.cons (.call 70 (.val (.con (.str "unlike")) .nil)) .nil)))) (.cons (.ret (.con (.bl false))) .nil) .nil) .nil)
def b_law_k71_1 : Ss := (.cons (.loop false [12] (.rng (.cons (.con (.int 2)) .nil)) b_law_k71_2) .nil)
def e_law_k71_1 : E := (.var 16)
def t_law_k71_1 : Eo := .some (.cmp .ne (.idx (.var 8) (.var 16)) (.tup (.cons (.tup (.cons (.con (.int 0)) (.cons (.con (.int 1)) .nil))) (.cons (.tup (.cons (.con (.int 0)) (.cons (.con (.int 1)) .nil))) .nil))))
def e_law_k71_2 : E := (.idx (.call 69 (.lend 6 (.lend 8 (.val (.idx (.var 15) (.con (.int 0))) (.val (.idx (.var 15) (.con (.int 1))) .nil))))) (.con (.int 0)))
def b_law_k71_3 : Ss := (.cons (.asg 8 (.call 76 (.mov (.call 37 (.lend 0 (.val (.bin .add (.con (.int 15)) (.var 4)) .nil))) (.lend 6 (.lend 7 .nil))))) (.cons (.asg 9 (.bi .list (.cons (.var 8) .nil))) (.cons (.ifs (.bop true (.cons (.cmp .lt (.var 4) (.con (.int 2))) (.cons (.not (.call 77 (.lend 1 (.lend 2 (.lend 9 .nil))))) .nil))) (.cons (.ret (.con (.bl false))) .nil) .nil) (.cons (.asg 10 (.bin .add (.comp e_law_k71_2 false [15] (.own 2) .none) (.lst (.cons (.con (.int 0)) .nil)))) (.cons (.asg 11 (.cmp .eq (.comp e_law_k71_1 false [16] (.own 3) t_law_k71_1) (.lst .nil))) (.cons (.unp [13, 14] (.call 75 (.val (.con (.int 1)) (.lend 1 (.lend 9 (.val (.con (.int 0)) (.val (.con (.int 0)) .nil))))))) (.cons (.ifs (.bop false (.cons (.cmp .ne (.var 14) (.lst .nil)) (.cons (.not (.isi (.var 13) .bool)) (.cons (.cmp .ne (.var 9) (.var 8)) .nil)))) (.cons (.ret (.con (.bl false))) .nil) .nil) (.cons (.ifs (.cmp .ne (.var 13) (.bop true (.cons (.var 11) (.cons (.cmp .le (.bi .max (.cons (.var 10) .nil)) (.con (.int 0))) (.cons (.cmp .lt (.bi .min (.cons (.var 10) .nil)) (.con (.int 0))) .nil))))) (.cons (.ret (.con (.bl false))) .nil) .nil) .nil))))))))
def f_law_k71 : Fn := ⟨[.v], 17, (.cons (.asg 1 (.call 74 (.lend 0 (.val (.con (.int 0)) (.val (.con (.int 12)) (.val (.con (.int 6)) .nil)))))) (.cons (.unp [6, 7] (.var 1)) (.cons (.asg 2 (.call 52 (.lend 7 .nil))) (.cons (.asg 3 (.call 66 (.lend 7 .nil))) (.cons (.loop false [4] (.rng (.cons (.con (.int 6)) .nil)) b_law_k71_3) (.cons (.loop false [5] (.ex (.lst (.cons (.bin .add (.var 8) (.lst (.cons (.idx (.var 8) (.con (.int 0))) .nil))) (.cons (.slc (.var 8) (.some (.con (.int 1))) .none) .nil)))) b_law_k71_1) (.cons (.ret (.con (.bl true))) .nil)))))))⟩
end Vm

/-! ThA: how plain things stand as data; steps of the interpreter for them. -/
namespace Vm
open PySem L2
section
variable {call : CallT} {refs : List Nat} {e : Env} {α β : Type}
/-! ### loops, as rewriting -/
def loopW (call : CallT) (refs : List Nat) (tp : Bool) (ts : List Nat) (b : Ss) (w : Wk) (e : Env) : SR := forL (fun e => evSs call b (w.ix ++ refs) e) (stoT (w.ix ++ refs) tp ts) w w.fuel 0 e
@[simp] theorem st_loop (tp : Bool) (ts : List Nat) (src : Src) (b : Ss) : evS call (.loop tp ts src b) refs e = (evSrc call refs src e).to fun w e => loopW call refs tp ts b w e := by simp only [evS]; rfl
@[simp] theorem loopW_st (tp : Bool) (ts : List Nat) (b : Ss) (l : List D) : loopW call refs tp ts b (.st l) e = forS call refs tp ts b l e := forL_st tp ts b l l.length 0 e rfl
@[simp] theorem forS_nil (tp : Bool) (ts : List Nat) (b : Ss) : forS call refs tp ts b [] e = .next e := rfl
theorem forS_cons (tp : Bool) (ts : List Nat) (b : Ss) (d : D) (r : List D) : forS call refs tp ts b (d :: r) e = (stoT refs tp ts d e).to fun _ e => (evSs call b refs e).then fun e => forS call refs tp ts b r e := rfl
@[simp] theorem src_rng (es : Es) : evSrc call refs (.rng es) e = (evPs call refs es e).bind fun l e => opn l e fun l => if rngOk es l = true then ofO ((rngD l).map .st) e else .bad := by simp only [evSrc]
@[simp] theorem src_ex (a : E) : evSrc call refs (.ex a) e = (evE call refs a e).bind fun p e => ofO ((itemsD p.2).map .st) e := by simp only [evSrc]
theorem src_own (i : Nat) : evSrc call refs (.own i) e = match e[i]? with
    | some (.own (.lst l)) => .ok (.ow i (l.length + 4096)) e
    | some (.val d) => ofO ((itemsD d).map .st) e
    | _ => .bad := by first | (simp only [evSrc]; done) | (simp only [evSrc]; rfl)
@[simp] theorem src_own_cons (s : Slot) (i : Nat) : evSrc call refs (.own i) (s :: e) = match (s :: e)[i]? with
    | some (.own (.lst l)) => .ok (.ow i (l.length + 4096)) (s :: e)
    | some (.val d) => ofO ((itemsD d).map .st) (s :: e)
    | _ => .bad := src_own i
@[simp] theorem rngOk1 (a : E) (d : D) : rngOk (.cons a .nil) [d] = true := rfl
@[simp] theorem rngOk2 (a b : E) (d d' : D) : rngOk (.cons a (.cons b .nil)) [d, d'] = true := rfl
@[simp] theorem it_tup (l : List D) : itemsD (.tup l) = some l := rfl
@[simp] theorem it_lst (l : List D) : itemsD (.lst l) = some l := rfl
@[simp] theorem stoT1 (i : Nat) (d : D) : stoT refs false [i] d e = sto refs i (.val d) e := rfl
@[simp] theorem stoT2 (ts : List Nat) (l : List D) : stoT refs true ts (.tup l) e = stoL refs ts l e := rfl
@[simp] theorem stoL0 : stoL refs [] [] e = .ok () e := rfl
@[simp] theorem stoL1 (i : Nat) (is : List Nat) (d : D) (ds : List D) : stoL refs (i :: is) (d :: ds) e = (sto refs i (.val d) e).bind fun _ e => stoL refs is ds e := rfl
@[simp] theorem st_unp (ts : List Nat) (a : E) : evS call (.unp ts a) refs e = (evE call refs a e).to fun p e => match p.2 with
      | .tup l => (stoL refs ts l e).to fun _ e => .next e
      | .lst l => (stoL refs ts l e).to fun _ e => .next e
      | _ => .bad := by first | (simp only [evS]; done) | (simp only [evS]; rfl)
@[simp] theorem st_seti (i : Nat) (k a : E) : evS call (.seti i k a) refs e = (evE call refs a e).to fun p e => match e[i]? with
      | some (.own _) => (opnd (isVar k) (fun _ => evE call refs k e) e).to fun k e => modK e i k fun d k => setD d k p.2
      | _ => .bad := by first | (simp only [evS]; done) | (simp only [evS]; rfl)
@[simp] theorem st_app (i : Nat) (a : E) : evS call (.app i a) refs e = match e[i]? with
      | some (.own (.lst _)) => (evE call refs a e).to fun p e => modify e i fun d => appD d p.2
      | _ => .bad := by first | (simp only [evS]; done) | (simp only [evS]; rfl)
@[simp] theorem st_ins (i : Nat) (k a : E) : evS call (.ins i k a) refs e = match e[i]? with
    | some (.own (.lst _)) => (opnd (isVar k) (fun _ => evE call refs k e) e).to fun k e => (evE call refs a e).to fun p e => modK e i k fun d k => insD d k p.2
    | _ => .bad := by first | (simp only [evS]; done) | (simp only [evS]; rfl)
@[simp] theorem ee_newd (t : Bool) : evE call refs (.newd t) e = .ok (true, if t then .dt [] else .dk []) e := by simp only [evE]
@[simp] theorem ee_bid (b : BI) (a d : E) : evE call refs (.bid b a d) e = (opnd (isVar a) (fun _ => evE call refs a e) e).bind fun x e => (opnd (isVar d) (fun _ => evE call refs d e) e).bind fun y e => op2 x y e fun x y => fresh (bidD b x y) e := by simp only [evE]
@[simp] theorem ee_lset (a : E) : evE call refs (.lset a) e = (opnd (isVar a) (fun _ => evE call refs a e) e).bind fun x e => op1 x e fun x => fresh (lsetD x) e := by simp only [evE]
@[simp] theorem ee_lrng (t : Bool) (es : Es) : evE call refs (.lrng t es) e = (evPs call refs es e).bind fun l e => opn l e fun l => if rngOk es l = true then (ofO (rngD l) e).bind fun l e => if t then .ok (false, .tup l) e else .ok (true, .lst l) e else .bad := by simp only [evE]
@[simp] theorem ee_chn (o p : CO) (a b c : E) : evE call refs (.chn o p a b c) e = (opnd (isVar a) (fun _ => evE call refs a e) e).bind fun x e => (opnd (isVar b) (fun _ => evE call refs b e) e).bind fun y e =>
      op2 x y e fun x' y' => (ofO (cmpD o x' y') e).bind fun k e => if k = true then (opnd (isVar c) (fun _ => evE call refs c e) e).bind fun z e => op2 y z e fun y z => ofB (cmpD p y z) e else .ok (false, .bl false) e := by simp only [evE]
@[simp] theorem iv17 (t : Bool) : isVar (.newd t) = none := rfl
@[simp] theorem iv18 (b : BI) (a d : E) : isVar (.bid b a d) = none := rfl
@[simp] theorem iv19 (a : E) : isVar (.lset a) = none := rfl
@[simp] theorem iv20 (t : Bool) (es : Es) : isVar (.lrng t es) = none := rfl
@[simp] theorem iv21 (o p : CO) (a b c : E) : isVar (.chn o p a b c) = none := rfl
@[simp] theorem st_ret_lrng (t : Bool) (es : Es) : evS call (.ret (.lrng t es)) refs e = (evE call refs (.lrng t es) e).to fun p e => .ret p.1 p.2 e := st_ret _ rfl
@[simp] theorem st_ret_slc (a : E) (lo hi : Eo) : evS call (.ret (.slc a lo hi)) refs e = (evE call refs (.slc a lo hi) e).to fun p e => .ret p.1 p.2 e := st_ret _ rfl
@[simp] theorem st_ret_lset (a : E) : evS call (.ret (.lset a)) refs e = (evE call refs (.lset a) e).to fun p e => .ret p.1 p.2 e := st_ret _ rfl
@[simp] theorem st_ret_chn (o p : CO) (a b c : E) : evS call (.ret (.chn o p a b c)) refs e = (evE call refs (.chn o p a b c) e).to fun p e => .ret p.1 p.2 e := st_ret _ rfl
@[simp] theorem as5 (a : E) (r : As) : evAs call refs (.give a r) e = (evE call refs a e).bind fun p e => if p.1 = true then (evAs call refs r e).bind fun l e => .ok (.g p.2 :: l) e else .bad := by simp only [evAs]
@[simp] theorem modify_cons (s : Slot) (i : Nat) (f : D → Option D) : modify (s :: e) i f = match (s :: e)[i]? with
  | some (.own d) => (match f d with
    | some d => .next ((s :: e).set i (.own d))
    | none => .bad)
  | _ => .bad := rfl
@[simp] theorem modK_d (s : Slot) (i : Nat) (k : D) (f : D → D → Option D) : modK (s :: e) i (.d k) f = modify (s :: e) i fun d => f d k := rfl
@[simp] theorem modK_s (s : Slot) (i j : Nat) (f : D → D → Option D) : modK (s :: e) i (.slot j) f = match pk (s :: e) j with | some k => modify (s :: e) i fun d => f d k | none => .bad := rfl
end
/-! ### numbers as data -/
def nD (n : Nat) : D := .int (n : Int)
def qD (x : Rat) : D := .tup [.int x.num, .int (x.den : Nat)]
def pD (p : Geo.Pt) : D := .tup [qD p.1, qD p.2]
def rD (r : List Nat) : D := .tup (r.map nD)
def ptsL (l : List Geo.Pt) : D := .lst (l.map pD)
def ptsT (l : List Geo.Pt) : D := .tup (l.map pD)
def fcsL (l : List (List Nat)) : D := .lst (l.map rD)
def fcsT (l : List (List Nat)) : D := .tup (l.map rD)
@[simp] theorem isL_q (x : Rat) : isL (qD x) = false := rfl
@[simp] theorem isL_p (x : Geo.Pt) : isL (pD x) = false := rfl
@[simp] theorem isL_r (x : List Nat) : isL (rD x) = false := rfl
@[simp] theorem isL_n (x : Nat) : isL (nD x) = false := rfl
@[simp] theorem isL_ptsL (x : List Geo.Pt) : isL (ptsL x) = true := rfl
@[simp] theorem isL_fcsL (x : List (List Nat)) : isL (fcsL x) = true := rfl
@[simp] theorem isL_ptsT (x : List Geo.Pt) : isL (ptsT x) = false := rfl
@[simp] theorem isL_fcsT (x : List (List Nat)) : isL (fcsT x) = false := rfl
/-! ### places -/
theorem atI_nat {α : Type} (l : List α) (k : Nat) : atI l (k : Int) = l[k]? := by
  unfold atI ixN
  by_cases h : k < l.length
  · rw [if_pos (by omega), if_pos (by omega)]; rfl
  · rw [if_pos (by omega), if_neg (by omega), List.getElem?_eq_none (by omega)]; rfl
theorem atI_last {α : Type} (l : List α) : atI l (-1) = l.getLast? := by
  unfold atI ixN
  cases l with
  | nil => rfl
  | cons a r =>
    have e : ((-1 : Int) + ((a :: r).length : Nat)).toNat = (a :: r).length - 1 := by simp; omega
    rw [if_neg (by omega), if_pos (by simp; omega), List.getLast?_eq_getElem?, e]; rfl
@[simp] theorem ix_tupD (l : List D) (k : Int) : idxD (.tup l) (.int k) = atI l k := rfl
@[simp] theorem ix_lstD (l : List D) (k : Int) : idxD (.lst l) (.int k) = atI l k := rfl
@[simp] theorem atI0 {α : Type} (a : α) (l : List α) : atI (a :: l) 0 = some a := by rw [show (0 : Int) = ((0 : Nat) : Int) from rfl, atI_nat]; rfl
@[simp] theorem atI1 {α : Type} (a b : α) (l : List α) : atI (a :: b :: l) 1 = some b := by rw [show (1 : Int) = ((1 : Nat) : Int) from rfl, atI_nat]; rfl
@[simp] theorem atI2 {α : Type} (a b c : α) (l : List α) : atI (a :: b :: c :: l) 2 = some c := by rw [show (2 : Int) = ((2 : Nat) : Int) from rfl, atI_nat]; rfl
@[simp] theorem atI3 {α : Type} (a b c d : α) (l : List α) : atI (a :: b :: c :: d :: l) 3 = some d := by rw [show (3 : Int) = ((3 : Nat) : Int) from rfl, atI_nat]; rfl
@[simp] theorem ix_q0 (x : Rat) : idxD (qD x) (.int 0) = some (.int x.num) := by simp [qD]
@[simp] theorem ix_q1 (x : Rat) : idxD (qD x) (.int 1) = some (.int (x.den : Nat)) := by simp [qD]
@[simp] theorem ix_p0 (x : Geo.Pt) : idxD (pD x) (.int 0) = some (qD x.1) := by simp [pD]
@[simp] theorem ix_p1 (x : Geo.Pt) : idxD (pD x) (.int 1) = some (qD x.2) := by simp [pD]
theorem ix_nat (l : List D) (k : Nat) : idxD (.lst l) (nD k) = l[k]? := by unfold nD; rw [ix_lstD, atI_nat]
theorem ix_natT (l : List D) (k : Nat) : idxD (.tup l) (nD k) = l[k]? := by unfold nD; rw [ix_tupD, atI_nat]
/-- numbers 0, 1, .. from k on -/
def idxs (k m : Nat) : List D := (List.range' k m).map nD
@[simp] theorem idxs_zero (k : Nat) : idxs k 0 = [] := rfl
theorem idxs_succ (k m : Nat) : idxs k (m + 1) = nD k :: idxs (k + 1) m := by unfold idxs; rw [List.range'_succ]; rfl
theorem rngL_idxs (n : Nat) : rngL 0 n = idxs 0 n := by
  unfold rngL idxs
  rw [List.range_eq_range']
  refine List.map_congr_left fun i _ => ?_
  unfold nD
  rw [Int.zero_add]
theorem rng_len (n : Nat) (h : n < 2 ^ 20) : rngD [.int (n : Nat)] = some (idxs 0 n) := by
  unfold rngD
  dsimp only
  rw [if_pos ⟨by omega, by omega⟩, Int.toNat_natCast, rngL_idxs]
@[simp] theorem len_tup (l : List D) : biD .len [.tup l] = some (.int (l.length : Nat)) := rfl
@[simp] theorem len_lst (l : List D) : biD .len [.lst l] = some (.int (l.length : Nat)) := rfl
@[simp] theorem len_dk (l : List (Key × D)) : biD .len [.dk l] = some (.int (l.length : Nat)) := rfl
@[simp] theorem len_r (l : List Nat) : biD .len [rD l] = some (.int (l.length : Nat)) := by show some (D.int ((l.map nD).length : Nat)) = _; rw [List.length_map]
@[simp] theorem len_ptsL (l : List Geo.Pt) : biD .len [ptsL l] = some (.int (l.length : Nat)) := by show some (D.int ((l.map pD).length : Nat)) = _; rw [List.length_map]
@[simp] theorem len_ptsT (l : List Geo.Pt) : biD .len [ptsT l] = some (.int (l.length : Nat)) := by show some (D.int ((l.map pD).length : Nat)) = _; rw [List.length_map]
@[simp] theorem len_fcsL (l : List (List Nat)) : biD .len [fcsL l] = some (.int (l.length : Nat)) := by show some (D.int ((l.map rD).length : Nat)) = _; rw [List.length_map]
@[simp] theorem len_fcsT (l : List (List Nat)) : biD .len [fcsT l] = some (.int (l.length : Nat)) := by show some (D.int ((l.map rD).length : Nat)) = _; rw [List.length_map]
@[simp] theorem it_ptsL (l : List Geo.Pt) : itemsD (ptsL l) = some (l.map pD) := rfl
@[simp] theorem it_ptsT (l : List Geo.Pt) : itemsD (ptsT l) = some (l.map pD) := rfl
@[simp] theorem it_fcsL (l : List (List Nat)) : itemsD (fcsL l) = some (l.map rD) := rfl
@[simp] theorem it_fcsT (l : List (List Nat)) : itemsD (fcsT l) = some (l.map rD) := rfl
@[simp] theorem it_r (l : List Nat) : itemsD (rD l) = some (l.map nD) := rfl
/-- a thing of a list by its number -/
theorem ix_pts {l : List Geo.Pt} {k : Nat} (h : k < l.length) : idxD (ptsL l) (nD k) = some (pD l[k]) ∧ idxD (ptsT l) (nD k) = some (pD l[k]) := by
  have e : (l.map pD)[k]? = some (pD l[k]) := by rw [List.getElem?_map, List.getElem?_eq_getElem h]; rfl
  exact ⟨(ix_nat _ k).trans e, (ix_natT _ k).trans e⟩
theorem ix_fcs {l : List (List Nat)} {k : Nat} (h : k < l.length) : idxD (fcsL l) (nD k) = some (rD l[k]) ∧ idxD (fcsT l) (nD k) = some (rD l[k]) := by
  have e : (l.map rD)[k]? = some (rD l[k]) := by rw [List.getElem?_map, List.getElem?_eq_getElem h]; rfl
  exact ⟨(ix_nat _ k).trans e, (ix_natT _ k).trans e⟩
theorem ix_r {l : List Nat} {k : Nat} (h : k < l.length) : idxD (rD l) (nD k) = some (nD l[k]) := by
  refine (ix_natT _ k).trans ?_
  rw [List.getElem?_map, List.getElem?_eq_getElem h]; rfl
/-! ### equality -/
/-- data of a kind, told apart -/
class Cod (α : Type) (enc : α → D) where
  pe : α → PyData
  py : ∀ a, Vm.py (enc a) = some (pe a)
  lay : ∀ a, PyData.canLay0 (pe a) = true
  dep : ∀ a, PyData.depth (pe a) ≤ 20
  eqv : ∀ a b, PyData.eqv (pe a) (pe b) = true ↔ a = b
theorem Cod.shaped {α : Type} {enc : α → D} [c : Cod α enc] (a : α) : SeqAt.shaped (c.pe a) = true := by
  show (PyData.canLay0 (c.pe a) && decide (PyData.depth (c.pe a) ≤ 64)) = true
  rw [c.lay, decide_eq_true (by have := c.dep a; omega)]; rfl
theorem eq_cod {α : Type} [DecidableEq α] {enc : α → D} [c : Cod α enc] (a b : α) : eqD (enc a) (enc b) = some (decide (a = b)) := by
  unfold eqD
  rw [c.py, c.py]
  show (if SeqAt.shaped (c.pe a) = true ∧ SeqAt.shaped (c.pe b) = true then some (PyData.eqv (c.pe a) (c.pe b)) else none) = _
  rw [if_pos ⟨Cod.shaped a, Cod.shaped b⟩]
  congr 1
  rw [Bool.eq_iff_iff, c.eqv]; simp
theorem pys_cod {α : Type} {enc : α → D} [c : Cod α enc] : ∀ l : List α, py.pys (l.map enc) = some (l.map c.pe)
  | [] => rfl
  | a :: r => by rw [List.map_cons, py.pys, c.py, pys_cod r]; rfl
theorem layAll_cod {α : Type} {enc : α → D} [c : Cod α enc] : ∀ l : List α, PyData.canLayAll0 (l.map c.pe) = true ∧ PyData.depthAll (l.map c.pe) ≤ 20
  | [] => ⟨rfl, Nat.zero_le _⟩
  | a :: r => by
    obtain ⟨h1, h2⟩ := layAll_cod (c := c) r
    refine ⟨?_, ?_⟩
    · show (PyData.canLay0 (c.pe a) && PyData.canLayAll0 (r.map c.pe)) = true
      rw [c.lay, h1]; rfl
    · show max (PyData.depth (c.pe a)) (PyData.depthAll (r.map c.pe)) ≤ 20
      have := c.dep a
      omega
theorem shapedL_cod {α : Type} {enc : α → D} [c : Cod α enc] (l : List α) : SeqAt.shaped (.list (l.map c.pe)) = true := by
  obtain ⟨h1, h2⟩ := layAll_cod (c := c) l
  show (PyData.canLayAll0 (l.map c.pe) && decide (PyData.depthAll (l.map c.pe) + 1 ≤ 64)) = true
  rw [h1, decide_eq_true (by omega)]; rfl
theorem in_cod {α : Type} [DecidableEq α] {enc : α → D} [c : Cod α enc] (a : α) (l : List α) : inD (enc a) (.lst (l.map enc)) = some (decide (a ∈ l)) := by
  unfold inD
  dsimp only
  rw [c.py, pys_cod]
  show (if SeqAt.shaped (c.pe a) = true ∧ SeqAt.shaped (.list (l.map c.pe)) = true then some ((l.map c.pe).any fun z => PyData.eqv z (c.pe a)) else none) = _
  rw [if_pos ⟨Cod.shaped a, shapedL_cod l⟩, List.any_map]
  congr 1
  rw [Bool.eq_iff_iff, List.any_eq_true]
  simp only [Function.comp, decide_eq_true_eq]
  constructor
  · rintro ⟨x, hx, h⟩
    rw [← (c.eqv x a).mp h]; exact hx
  · intro h
    exact ⟨a, h, (c.eqv a a).mpr rfl⟩
instance : Cod Int .int := ⟨.int, fun _ => rfl, fun _ => rfl, fun _ => Nat.zero_le _, fun a b => by show (a == b) = true ↔ _; simp⟩
instance : Cod Nat nD := ⟨fun n => .int n, fun _ => rfl, fun _ => rfl, fun _ => Nat.zero_le _, fun a b => by show (((a : Int)) == (b : Int)) = true ↔ _; simp; omega⟩
theorem eqvAll_map {α : Type} {pe : α → PyData} (h : ∀ a b, PyData.eqv (pe a) (pe b) = true ↔ a = b) : ∀ l m : List α, PyData.eqvAll (l.map pe) (m.map pe) = true ↔ l = m
  | [], [] => by simp [PyData.eqvAll]
  | [], _ :: _ => by simp [PyData.eqvAll]
  | _ :: _, [] => by simp [PyData.eqvAll]
  | a :: l, b :: m => by
    rw [List.map_cons, List.map_cons, PyData.eqvAll, Bool.and_eq_true_iff, h, eqvAll_map h l m]
    simp
theorem depthAll_cod {α : Type} {enc : α → D} [c : Cod α enc] {n : Nat} (hd : ∀ a, PyData.depth (c.pe a) ≤ n) : ∀ l : List α, PyData.depthAll (l.map c.pe) ≤ n
  | [] => Nat.zero_le _
  | a :: r => by
    show max (PyData.depth (c.pe a)) (PyData.depthAll (r.map c.pe)) ≤ n
    have := hd a
    have := depthAll_cod hd r
    omega
/-- tuples, lists of such -/
@[reducible] def Cod.ofTup {α : Type} {enc : α → D} (c : Cod α enc) (n : Nat) (hn : n < 20) (hd : ∀ a, PyData.depth (c.pe a) ≤ n) : Cod (List α) (fun l => .tup (l.map enc)) where
  pe l := .tuple (l.map c.pe)
  py l := by simp only [Vm.py, pys_cod, Option.map_some]
  lay l := (layAll_cod l).1
  dep l := by
    show PyData.depthAll (l.map c.pe) + 1 ≤ 20
    have := depthAll_cod hd l
    omega
  eqv l m := by rw [PyData.eqv]; exact eqvAll_map c.eqv l m
@[reducible] def Cod.ofLst {α : Type} {enc : α → D} (c : Cod α enc) (n : Nat) (hn : n < 20) (hd : ∀ a, PyData.depth (c.pe a) ≤ n) : Cod (List α) (fun l => .lst (l.map enc)) where
  pe l := .list (l.map c.pe)
  py l := by simp only [Vm.py, pys_cod, Option.map_some]
  lay l := (layAll_cod l).1
  dep l := by
    show PyData.depthAll (l.map c.pe) + 1 ≤ 20
    have := depthAll_cod hd l
    omega
  eqv l m := by rw [PyData.eqv]; exact eqvAll_map c.eqv l m
@[reducible] def Cod.pair {α β : Type} {enc : α → D} {enc' : β → D} (c : Cod α enc) (c' : Cod β enc') (n : Nat) (hn : n < 20) (hd : ∀ a, PyData.depth (c.pe a) ≤ n) (hd' : ∀ a, PyData.depth (c'.pe a) ≤ n) : Cod (α × β) (fun p => .tup [enc p.1, enc' p.2]) where
  pe p := .tuple [c.pe p.1, c'.pe p.2]
  py p := by simp only [Vm.py, Vm.py.pys, c.py, c'.py, Option.map_some]
  lay p := by
    show (PyData.canLay0 (c.pe p.1) && (PyData.canLay0 (c'.pe p.2) && true)) = true
    rw [c.lay, c'.lay]; rfl
  dep p := by
    show (max (PyData.depth (c.pe p.1)) (max (PyData.depth (c'.pe p.2)) 0)) + 1 ≤ 20
    have := hd p.1
    have := hd' p.2
    omega
  eqv p q := by
    rw [PyData.eqv]
    simp only [PyData.eqvAll, Bool.and_true, Bool.and_eq_true_iff, c.eqv, c'.eqv]
    exact ⟨fun h => Prod.ext h.1 h.2, fun h => by rw [h]; exact ⟨rfl, rfl⟩⟩
instance : Cod Rat qD where
  pe x := .tuple [.int x.num, .int (x.den : Nat)]
  py _ := rfl
  lay _ := rfl
  dep _ := by show (max 0 (max 0 0)) + 1 ≤ 20; decide
  eqv a b := by
    show PyData.eqvAll _ _ = true ↔ _
    simp only [PyData.eqvAll, Bool.and_true, Bool.and_eq_true_iff]
    show ((a.num == b.num) = true ∧ (((a.den : Nat) : Int) == ((b.den : Nat) : Int)) = true) ↔ _
    simp only [beq_iff_eq]
    constructor
    · rintro ⟨h1, h2⟩
      exact Rat.ext h1 (by omega)
    · rintro rfl; exact ⟨rfl, rfl⟩
abbrev codQ : Cod Rat qD := inferInstance
theorem q_depth (x : Rat) : PyData.depth (codQ.pe x) ≤ 1 := Nat.le_refl 1
@[reducible] def codP : Cod Geo.Pt pD := Cod.pair codQ codQ 1 (by decide) q_depth q_depth
instance : Cod Geo.Pt pD := codP
theorem p_depth (x : Geo.Pt) : PyData.depth (codP.pe x) ≤ 2 := by show (max 1 (max 1 0)) + 1 ≤ 2; decide
@[reducible] def codN : Cod Nat nD := inferInstance
@[reducible] def codR : Cod (List Nat) rD := Cod.ofTup codN 0 (by decide) (fun _ => Nat.le_refl 0)
instance : Cod (List Nat) rD := codR
theorem r_depth (x : List Nat) : PyData.depth (codR.pe x) ≤ 1 := by
  show PyData.depthAll _ + 1 ≤ 1
  have := depthAll_cod (c := codN) (n := 0) (fun _ => Nat.le_refl 0) x
  omega
instance : Cod (List Geo.Pt) ptsL := Cod.ofLst codP 2 (by decide) p_depth
@[reducible] def codPtsT : Cod (List Geo.Pt) ptsT := Cod.ofTup codP 2 (by decide) p_depth
instance : Cod (List Geo.Pt) ptsT := codPtsT
instance : Cod (List (List Nat)) fcsL := Cod.ofLst codR 1 (by decide) r_depth
@[reducible] def codFcsT : Cod (List (List Nat)) fcsT := Cod.ofTup codR 1 (by decide) r_depth
instance : Cod (List (List Nat)) fcsT := codFcsT
/-! ### calls, as rewriting -/
@[simp] theorem par0 : params [] [] = some [] := rfl
@[simp] theorem par1 (d : D) (r : List PM) (as : List AV) : params (.v :: r) (.val d :: as) = (params r as).map (.val d :: ·) := rfl
@[simp] theorem par2 (d : D) (r : List PM) (as : List AV) : params (.r :: r) (.own d :: as) = (params r as).map (.own d :: ·) := rfl
@[simp] theorem par3 (d : D) (r : List PM) (as : List AV) : params (.g :: r) (.give d :: as) = (params r as).map (.own d :: ·) := rfl
@[simp] theorem ro0 (i : Nat) : refsOf i [] = [] := rfl
@[simp] theorem ro1 (i : Nat) (r : List PM) : refsOf i (.r :: r) = i :: refsOf (i + 1) r := rfl
@[simp] theorem ro2 (i : Nat) (r : List PM) : refsOf i (.v :: r) = refsOf (i + 1) r := rfl
@[simp] theorem ro3 (i : Nat) (r : List PM) : refsOf i (.g :: r) = refsOf (i + 1) r := rfl
@[simp] theorem ou0 (e : Env) : outs e [] = some [] := rfl
@[simp] theorem ou1 (e : Env) (i : Nat) (r : List Nat) : outs e (i :: r) = (getO e i).bind fun d => (outs e r).map (d :: ·) := rfl
@[simp] theorem go1 (s : Slot) (e : Env) (i : Nat) : getO (s :: e) i = match (s :: e)[i]? with
  | some (.own d) => some d
  | some (.lck d) => some d
  | _ => none := rfl
@[simp] theorem fe0 (e : Env) : fetch e [] = some [] := rfl
@[simp] theorem fe1 (e : Env) (d : D) (r : List AA) : fetch e (.v d :: r) = (fetch e r).map (.val d :: ·) := rfl
@[simp] theorem fe2 (e : Env) (d : D) (r : List AA) : fetch e (.m d :: r) = (fetch e r).map (.own d :: ·) := rfl
@[simp] theorem fe3 (e : Env) (d : D) (r : List AA) : fetch e (.g d :: r) = (fetch e r).map (.give d :: ·) := rfl
@[simp] theorem fe4 (e : Env) (i : Nat) (r : List AA) : fetch e (.l i :: r) = (pk e i).bind fun d => (fetch e r).map (.val d :: ·) := rfl
@[simp] theorem fe5 (s : Slot) (e : Env) (i : Nat) (r : List AA) : fetch (s :: e) (.r i :: r) = match (s :: e)[i]? with
    | some (.own d) => (fetch (s :: e) r).map (.own d :: ·)
    | _ => none := rfl
@[simp] theorem ixs0 : ixs [] = [] := rfl
@[simp] theorem ixs1 (d : D) (r : List AA) : ixs (.v d :: r) = ixs r := rfl
@[simp] theorem ixs2 (d : D) (r : List AA) : ixs (.m d :: r) = ixs r := rfl
@[simp] theorem ixs3 (d : D) (r : List AA) : ixs (.g d :: r) = ixs r := rfl
@[simp] theorem ixs4 (i : Nat) (r : List AA) : ixs (.l i :: r) = i :: ixs r := rfl
@[simp] theorem ixs5 (i : Nat) (r : List AA) : ixs (.r i :: r) = i :: ixs r := rfl
@[simp] theorem pb0 (e : Env) : putBack [] [] e = some e := rfl
@[simp] theorem pb1 (d : D) (r : List AA) (os : List D) (e : Env) : putBack (.v d :: r) os e = putBack r os e := by cases os <;> rfl
@[simp] theorem pb2 (i : Nat) (r : List AA) (os : List D) (e : Env) : putBack (.l i :: r) os e = putBack r os e := by cases os <;> rfl
@[simp] theorem pb3 (d : D) (r : List AA) (os : List D) (e : Env) : putBack (.g d :: r) os e = putBack r os e := by cases os <;> rfl
@[simp] theorem pb4 (d o : D) (r : List AA) (os : List D) (e : Env) : putBack (.m d :: r) (o :: os) e = putBack r os e := rfl
@[simp] theorem pb5 (i : Nat) (o : D) (r : List AA) (os : List D) (e : Env) : putBack (.r i :: r) (o :: os) e = (putBack r os e).map fun e => e.set i (.own o) := rfl
@[simp] theorem fz0 (e : Env) : frzA [] e = e := rfl
@[simp] theorem fz1 (d : D) (r : List AA) (e : Env) : frzA (.v d :: r) e = frzA r e := rfl
@[simp] theorem fz2 (d : D) (r : List AA) (e : Env) : frzA (.m d :: r) e = frzA r e := rfl
@[simp] theorem fz3 (d : D) (r : List AA) (e : Env) : frzA (.g d :: r) e = frzA r e := rfl
@[simp] theorem fz4 (i : Nat) (r : List AA) (e : Env) : frzA (.l i :: r) e = frzS (frzA r e) i := rfl
@[simp] theorem fz5 (i : Nat) (r : List AA) (e : Env) : frzA (.r i :: r) e = frzA r e := rfl
@[simp] theorem fs1 (s : Slot) (e : Env) (i : Nat) : frzS (s :: e) i = match (s :: e)[i]? with
  | some (.own d) => (s :: e).set i (.val d)
  | some (.lck d) => (s :: e).set i (.val d)
  | _ => s :: e := rfl
@[simp] theorem fl_int (i : Int) : flat (.int i) = true := rfl
@[simp] theorem fl_bl (i : Bool) : flat (.bl i) = true := rfl
@[simp] theorem fl_str (i : Str) : flat (.str i) = true := rfl
@[simp] theorem fl_non : flat .non = true := rfl
@[simp] theorem fl_q (x : Rat) : flat (qD x) = true := rfl
@[simp] theorem fl_p (x : Geo.Pt) : flat (pD x) = true := rfl
@[simp] theorem fl_n (x : Nat) : flat (nD x) = true := rfl
theorem fls_map {α : Type} {enc : α → D} (h : ∀ a, flat (enc a) = true) : ∀ l : List α, flat.flats (l.map enc) = true
  | [] => rfl
  | a :: r => by
    show (flat (enc a) && flat.flats (r.map enc)) = true
    rw [h, fls_map h r]; rfl
@[simp] theorem fl_tup (l : List D) : flat (.tup l) = flat.flats l := rfl
@[simp] theorem fl_lst (l : List D) : flat (.lst l) = false := rfl
@[simp] theorem fls0 : flat.flats [] = true := rfl
@[simp] theorem fls1 (a : D) (l : List D) : flat.flats (a :: l) = (flat a && flat.flats l) := rfl
@[simp] theorem fl_r (x : List Nat) : flat (rD x) = true := fls_map (enc := nD) (fun _ => rfl) x
@[simp] theorem fl_ptsT (x : List Geo.Pt) : flat (ptsT x) = true := fls_map (enc := pD) (fun _ => rfl) x
@[simp] theorem fl_fcsT (x : List (List Nat)) : flat (fcsT x) = true := fls_map (enc := rD) fl_r x
@[simp] theorem ok_lend (fr : Bool) (d : D) : okLend fr d = (flat d || (fr && match d with
  | .lst l => flat.flats l
  | _ => false)) := rfl
theorem okl_ptsL (x : List Geo.Pt) : okLend true (ptsL x) = true := by
  show (false || (true && flat.flats (x.map pD))) = true
  rw [fls_map (enc := pD) (fun _ => rfl)]; rfl
theorem okl_fcsL (x : List (List Nat)) : okLend true (fcsL x) = true := by
  show (false || (true && flat.flats (x.map rD))) = true
  rw [fls_map (enc := rD) fl_r]; rfl
@[simp] theorem oo_lst (l : List D) : okOut (.lst l) = flat.flats l := rfl
@[simp] theorem do_call (call : CallT) (f : Nat) (as : List AA) (e : Env) : doCall call f as e = if (ixs as).Nodup then
    match fetch e as with
    | none => .bad
    | some vs => match call f vs with
      | .bad => .bad
      | .ret fr d os => match putBack as os e with
        | some e => .ok (fr, d) (if (okLend fr d && os.all okOut) = true then e else frzA as e)
        | none => .bad
      | .exc x os => match putBack as os e with
        | some e => .exc x (if os.all okOut = true then e else frzA as e)
        | none => .bad
  else .bad := rfl
@[simp] theorem run_fn (call : CallT) (ps : List PM) (n : Nat) (body : Ss) (as : List AV) : runFn call ⟨ps, n, body⟩ as = match params ps as with
  | none => .bad
  | some e => match evSs call body (refsOf 0 ps) (e ++ List.replicate (n - e.length) .emp) with
    | .next e => match outs e (refsOf 0 ps) with | some os => .ret false .non os | none => .bad
    | .ret fr d e => match outs e (refsOf 0 ps) with | some os => .ret fr d os | none => .bad
    | .exc x e => match outs e (refsOf 0 ps) with | some os => .exc x os | none => .bad
    | .bad => .bad := rfl
end Vm

/-! ThB: fractions, steps, turns. -/
namespace Vm
open PySem L2
/-! ### sizes -/
def Sz (b : Nat) (x : Rat) : Prop := x.num.natAbs < 2 ^ b ∧ x.den < 2 ^ b
theorem log2_le {n b : Nat} (h : n < 2 ^ b) (hb : 0 < b) : n.log2 < b := by
  by_cases hn : n = 0
  · subst hn; simpa using hb
  · exact (Nat.log2_lt hn).mpr h
theorem mulOk_of {i j : Int} {a b : Nat} (hi : i.natAbs < 2 ^ a) (hj : j.natAbs < 2 ^ b) (ha : 0 < a) (hb : 0 < b) (h : a + b ≤ 1000000) : mulOk i j = true := by
  unfold mulOk
  have := log2_le hi ha
  have := log2_le hj hb
  exact decide_eq_true (by omega)
theorem fdOk_of {i j q : Int} (hj : j ≠ 0) (h : i = q * j) (hq : q.natAbs < 2 ^ 4000) : fdOk i j = true := by
  have hj' : j.natAbs ≠ 0 := by omega
  have hl : i.natAbs.log2 ≤ j.natAbs.log2 + 4001 := by
    by_cases hi : i.natAbs = 0
    · rw [hi]; simp
    · have e : i.natAbs = q.natAbs * j.natAbs := by rw [h, Int.natAbs_mul]
      have h2 : i.natAbs < 2 ^ (j.natAbs.log2 + 4002) := by
        have h3 : j.natAbs < 2 ^ (j.natAbs.log2 + 1) := Nat.lt_log2_self
        calc i.natAbs = q.natAbs * j.natAbs := e
          _ < 2 ^ 4000 * 2 ^ (j.natAbs.log2 + 1) := Nat.mul_lt_mul'' hq h3
          _ = 2 ^ (4000 + (j.natAbs.log2 + 1)) := (Nat.pow_add ..).symm
          _ ≤ 2 ^ (j.natAbs.log2 + 4002) := Nat.pow_le_pow_right (by decide) (by omega)
      have := (Nat.log2_lt hi).mpr h2
      omega
  unfold fdOk Builtin.divisionGoesByPylong
  have hb : (j == 0) = false := by simpa using hj
  simp only [hb, Bool.false_eq_true, if_false]
  by_cases hi : (i == 0) = true
  · simp [hi]
  · simp only [hi, Bool.false_eq_true, if_false]
    rw [Bool.not_eq_true', Bool.and_eq_false_iff]
    by_cases h3 : j.natAbs.log2 / 30 + 1 > 300
    · right
      exact decide_eq_false (by omega)
    · left; exact decide_eq_false h3
/-- the fraction of two whole numbers -/
theorem mkR (a : Int) {b : Int} (hb : b ≠ 0) : (Rat.divInt a b).num = (a * b.sign).fdiv (Int.gcd a b) ∧ ((Rat.divInt a b).den : Int) = (b * b.sign).fdiv (Int.gcd a b) := by
  have hg : (0 : Int) ≤ (Int.gcd a b : Nat) := by omega
  rw [Rat.num_divInt, Rat.den_divInt, if_neg hb, Int.gcd_comm b a]
  refine ⟨?_, ?_⟩
  · rw [Int.fdiv_eq_ediv_of_nonneg _ hg, Int.mul_comm]
  · rw [Int.fdiv_eq_ediv_of_nonneg _ hg, Int.mul_sign_self]; rfl
theorem sign_cases {b : Int} (hb : b ≠ 0) : (b < 0 ∧ b.sign = -1) ∨ (¬ b < 0 ∧ b.sign = 1) := by
  rcases Int.lt_or_lt_of_ne hb with h | h
  · exact .inl ⟨h, Int.sign_eq_neg_one_of_neg h⟩
  · exact .inr ⟨by omega, Int.sign_eq_one_of_pos h⟩
/-- top // many, bottom // many -/
theorem divs {a b : Int} (hb : b ≠ 0) {m : Int} (hm : m = b.sign * (Int.gcd a b : Nat)) : a.fdiv m = (Rat.divInt a b).num ∧ b.fdiv m = ((Rat.divInt a b).den : Int) ∧ a = (Rat.divInt a b).num * m ∧ b = ((Rat.divInt a b).den : Int) * m ∧ m ≠ 0 := by
  have hg : (Int.gcd a b : Int) ≠ 0 := by
    intro z
    have : Int.gcd a b = 0 := by omega
    exact hb (Int.gcd_eq_zero_iff.mp this).2
  obtain ⟨c, hc⟩ := Int.gcd_dvd_left a b
  obtain ⟨d, hd⟩ := Int.gcd_dvd_right a b
  obtain ⟨e1, e2⟩ := mkR a hb
  generalize hG : (Int.gcd a b : Int) = g at *
  have hs : b.sign * b.sign = 1 := by rcases sign_cases hb with ⟨_, z⟩ | ⟨_, z⟩ <;> rw [z] <;> rfl
  have hm0 : m ≠ 0 := by
    rw [hm]
    intro z
    rcases Int.mul_eq_zero.mp z with z | z
    · rw [z] at hs; cases hs
    · exact hg z
  have n1 : (Rat.divInt a b).num = c * b.sign := by
    rw [e1, hc]
    rw [show g * c * b.sign = g * (c * b.sign) from Int.mul_assoc .., Int.mul_comm g, Int.mul_fdiv_cancel _ hg]
  have n2 : ((Rat.divInt a b).den : Int) = d * b.sign := by
    rw [e2]
    conv => lhs; arg 1; arg 1; rw [hd]
    rw [show g * d * b.sign = g * (d * b.sign) from Int.mul_assoc .., Int.mul_comm g, Int.mul_fdiv_cancel _ hg]
  have f1 : a = (Rat.divInt a b).num * m := by
    rw [n1, hm]
    calc a = g * c := hc
      _ = c * g * 1 := by rw [Int.mul_one, Int.mul_comm]
      _ = c * g * (b.sign * b.sign) := by rw [hs]
      _ = c * b.sign * (b.sign * g) := by ac_rfl
  have f2 : b = ((Rat.divInt a b).den : Int) * m := by
    rw [n2, hm]
    calc b = g * d := hd
      _ = d * g * 1 := by rw [Int.mul_one, Int.mul_comm]
      _ = d * g * (b.sign * b.sign) := by rw [hs]
      _ = d * b.sign * (b.sign * g) := by ac_rfl
  refine ⟨?_, ?_, f1, f2, hm0⟩
  · conv => lhs; arg 1; rw [f1]
    exact Int.mul_fdiv_cancel _ hm0
  · conv => lhs; arg 1; rw [f2]
    exact Int.mul_fdiv_cancel _ hm0
theorem divInt_le {a b : Int} (hb : b ≠ 0) : (Rat.divInt a b).num.natAbs ≤ a.natAbs ∧ (Rat.divInt a b).den ≤ b.natAbs := by
  obtain ⟨_, _, h1, h2, h3⟩ := divs hb rfl
  generalize b.sign * ((Int.gcd a b : Nat) : Int) = m at h1 h2 h3
  have hm : 1 ≤ m.natAbs := by omega
  refine ⟨?_, ?_⟩
  · have := congrArg Int.natAbs h1
    rw [Int.natAbs_mul] at this
    rw [this]; exact Nat.le_mul_of_pos_right _ hm
  · have := congrArg Int.natAbs h2
    rw [Int.natAbs_mul] at this
    rw [this]
    have e : (((Rat.divInt a b).den : Nat) : Int).natAbs = (Rat.divInt a b).den := by omega
    rw [e]; exact Nat.le_mul_of_pos_right _ hm
theorem den_ne (x : Rat) : (x.den : Int) ≠ 0 := by have := x.den_nz; omega
theorem add_eq (x y : Rat) : x + y = Rat.divInt (x.num * (y.den : Nat) + y.num * (x.den : Nat)) ((x.den : Nat) * (y.den : Nat)) := by
  rw [← Rat.divInt_add_divInt _ _ (den_ne x) (den_ne y), Rat.num_divInt_den, Rat.num_divInt_den]
theorem sub_eq (x y : Rat) : x - y = Rat.divInt (x.num * (y.den : Nat) - y.num * (x.den : Nat)) ((x.den : Nat) * (y.den : Nat)) := by
  rw [← Rat.divInt_sub_divInt _ _ (den_ne x) (den_ne y), Rat.num_divInt_den, Rat.num_divInt_den]
theorem mul_eq (x y : Rat) : x * y = Rat.divInt (x.num * y.num) ((x.den : Nat) * (y.den : Nat)) := by
  rw [← Rat.divInt_mul_divInt, Rat.num_divInt_den, Rat.num_divInt_den]
theorem div_eq (x y : Rat) : x / y = Rat.divInt (x.num * (y.den : Nat)) ((x.den : Nat) * y.num) := by
  rw [Rat.div_def, ← Rat.divInt_mul_divInt, Rat.num_divInt_den, ← Rat.inv_divInt, Rat.num_divInt_den]
theorem lt2 {a b : Nat} {i j : Int} (hi : i.natAbs < 2 ^ a) (hj : j.natAbs < 2 ^ b) : (i * j).natAbs < 2 ^ (a + b) := by
  rw [Int.natAbs_mul, Nat.pow_add]; exact Nat.mul_lt_mul'' hi hj
theorem Sz.d {b : Nat} {x : Rat} (h : Sz b x) : ((x.den : Nat) : Int).natAbs < 2 ^ b := h.2
theorem add_lt2 {a : Nat} {i j : Int} (hi : i.natAbs < 2 ^ a) (hj : j.natAbs < 2 ^ a) : (i + j).natAbs < 2 ^ (a + 1) ∧ (i - j).natAbs < 2 ^ (a + 1) := by
  rw [Nat.pow_succ]; omega
theorem Sz.mono {a b : Nat} {x : Rat} (h : Sz a x) (hab : a ≤ b) : Sz b x := ⟨Nat.lt_of_lt_of_le h.1 (Nat.pow_le_pow_right (by decide) hab), Nat.lt_of_lt_of_le h.2 (Nat.pow_le_pow_right (by decide) hab)⟩
theorem dd_ne (x y : Rat) : ((x.den : Nat) : Int) * (y.den : Nat) ≠ 0 := fun z => by
  rcases Int.mul_eq_zero.mp z with z | z
  · exact den_ne x z
  · exact den_ne y z
theorem Sz.add {a b : Nat} {x y : Rat} (hx : Sz a x) (hy : Sz b y) : Sz (a + b + 1) (x + y) := by
  rw [add_eq]
  obtain ⟨h1, h2⟩ := divInt_le (a := x.num * (y.den : Nat) + y.num * (x.den : Nat)) (dd_ne x y)
  have t1 := lt2 hx.1 hy.d
  have t2 := lt2 hy.1 hx.d
  rw [Nat.add_comm b a] at t2
  exact ⟨Nat.lt_of_le_of_lt h1 (add_lt2 t1 t2).1, Nat.lt_of_le_of_lt h2 (Nat.lt_of_lt_of_le (lt2 hx.d hy.d) (Nat.pow_le_pow_right (by decide) (by omega)))⟩
theorem Sz.sub {a b : Nat} {x y : Rat} (hx : Sz a x) (hy : Sz b y) : Sz (a + b + 1) (x - y) := by
  rw [sub_eq]
  obtain ⟨h1, h2⟩ := divInt_le (a := x.num * (y.den : Nat) - y.num * (x.den : Nat)) (dd_ne x y)
  have t1 := lt2 hx.1 hy.d
  have t2 := lt2 hy.1 hx.d
  rw [Nat.add_comm b a] at t2
  exact ⟨Nat.lt_of_le_of_lt h1 (add_lt2 t1 t2).2, Nat.lt_of_le_of_lt h2 (Nat.lt_of_lt_of_le (lt2 hx.d hy.d) (Nat.pow_le_pow_right (by decide) (by omega)))⟩
theorem Sz.mul {a b : Nat} {x y : Rat} (hx : Sz a x) (hy : Sz b y) : Sz (a + b) (x * y) := by
  rw [mul_eq]
  obtain ⟨h1, h2⟩ := divInt_le (a := x.num * y.num) (dd_ne x y)
  exact ⟨Nat.lt_of_le_of_lt h1 (lt2 hx.1 hy.1), Nat.lt_of_le_of_lt h2 (lt2 hx.d hy.d)⟩
theorem num_ne {x : Rat} (h : x ≠ 0) : x.num ≠ 0 := fun z => h (Rat.num_eq_zero.mp z)
theorem Sz.div {a b : Nat} {x y : Rat} (hx : Sz a x) (hy : Sz b y) (h0 : y ≠ 0) : Sz (a + b) (x / y) := by
  rw [div_eq]
  have hb : ((x.den : Nat) : Int) * y.num ≠ 0 := fun z => by
    rcases Int.mul_eq_zero.mp z with z | z
    · exact den_ne x z
    · exact num_ne h0 z
  obtain ⟨h1, h2⟩ := divInt_le (a := x.num * (y.den : Nat)) hb
  exact ⟨Nat.lt_of_le_of_lt h1 (lt2 hx.1 hy.d), Nat.lt_of_le_of_lt h2 (lt2 hx.d hy.1)⟩
theorem Sz.int {b : Nat} {i : Int} (h : i.natAbs < 2 ^ b) (hb : 0 < b) : Sz b (i : Rat) := by
  refine ⟨?_, ?_⟩
  · rw [Rat.num_intCast]; exact h
  · rw [Rat.den_intCast]; exact Nat.one_lt_two_pow (by omega)
theorem Sz.zero {b : Nat} : Sz (b + 1) 0 := ⟨by show 0 < 2 ^ (b + 1); exact Nat.two_pow_pos _, by show 1 < 2 ^ (b + 1); exact Nat.one_lt_two_pow (by omega)⟩
theorem Sz.one {b : Nat} : Sz (b + 1) 1 := ⟨by show 1 < 2 ^ (b + 1); exact Nat.one_lt_two_pow (by omega), by show 1 < 2 ^ (b + 1); exact Nat.one_lt_two_pow (by omega)⟩
/-! ### the defs -/
section
variable {tab : Nat → Option Fn}
theorem gcd_loop {c : E} {bd : Ss} (hc : c = .cmp .gt (.var 1) (.con (.int 0))) (hb : bd = .cons (.par 0 1 (.var 1) (.bin .mod (.var 0) (.var 1))) .nil) (call : CallT) : ∀ (n : Nat) (a b : Nat), b < n → whlE call [] c bd n [.val (.int a), .val (.int b)] = .next [.val (.int (Nat.gcd a b)), .val (.int 0)]
  | 0, a, b, h => by omega
  | n + 1, a, b, h => by
    rw [whl1]
    by_cases hb0 : b = 0
    · subst hb0
      simp [hc]
    · have hp : 0 < b := Nat.pos_of_ne_zero hb0
      have ih := gcd_loop hc hb call n b (a % b) (by have := Nat.mod_lt a hp; omega)
      have e1 : ((a : Int).fmod (b : Int)) = ((a % b : Nat) : Int) := by
        rw [Int.fmod_eq_emod_of_nonneg _ (by omega)]; rfl
      have e2 : Nat.gcd b (a % b) = Nat.gcd a b := by rw [Nat.gcd_comm a b, Nat.gcd_rec b a]; exact Nat.gcd_comm ..
      rw [e2] at ih
      have hb' : (b : Int) ≠ 0 := by omega
      subst hc hb
      simpa [e1, hb0, hp] using ih
theorem abs_nat (a : Int) : (if a < 0 then -a else a) = (a.natAbs : Int) := by split <;> omega
theorem r_gcd [Has tab 0 f_divisor] (k : Nat) (a b : Int) : run tab (k + 1) 0 [.val (.int a), .val (.int b)] = .ret false (.int (Int.gcd a b : Nat)) [] := by
  rw [run_at (i := 0) inferInstance]
  have := gcd_loop (c := w_divisor_1) (bd := b_divisor_1) rfl rfl (run tab k) (b.natAbs + 1) a.natAbs b.natAbs (by omega)
  simp [f_divisor, biD, biAbs, abs_nat, gcdFuel, this, Int.gcd]
theorem r_common [Has tab 39 f_law_common] (k : Nat) (a b : Int) : run tab (k + 1) 39 [.val (.int a), .val (.int b)] = .ret false (.int (Int.gcd a b : Nat)) [] := by
  rw [run_at (i := 39) inferInstance]
  have := gcd_loop (c := w_law_common_1) (bd := b_law_common_1) rfl rfl (run tab k) (b.natAbs + 1) a.natAbs b.natAbs (by omega)
  simp [f_law_common, biD, biAbs, abs_nat, gcdFuel, this, Int.gcd]
def Sm (x : Rat) : Prop := Sz 4000 x
theorem frac_ok {a b : Int} (hb : b ≠ 0) (hs : Sm (Rat.divInt a b)) {m : Int} (hm : m = b.sign * (Int.gcd a b : Nat)) : fdOk a m = true ∧ fdOk b m = true ∧ m ≠ 0 ∧ a.fdiv m = (Rat.divInt a b).num ∧ b.fdiv m = ((Rat.divInt a b).den : Int) := by
  obtain ⟨h1, h2, h3, h4, h5⟩ := divs hb hm
  exact ⟨fdOk_of h5 h3 hs.1, fdOk_of h5 h4 hs.2, h5, h1, h2⟩
theorem r_fraction [Has tab 0 f_divisor] [Has tab 1 f_fraction] (k : Nat) {a b : Int} (hb : b ≠ 0) (hs : Sm (Rat.divInt a b)) : run tab (k + 2) 1 [.val (.int a), .val (.int b)] = .ret false (qD (Rat.divInt a b)) [] := by
  rw [run_at (i := 1) inferInstance]
  obtain ⟨h1, h2, h3, h4, h5⟩ := frac_ok hb hs rfl
  rcases sign_cases hb with ⟨z, e⟩ | ⟨z, e⟩
  · rw [e, Int.neg_mul, Int.one_mul] at h1 h2 h3 h4 h5
    have h3' : ((Int.gcd a b : Nat) : Int) ≠ 0 := by omega
    simp [f_fraction, r_gcd, hb, z, h1, h2, h3', h4, h5, qD]
  · rw [e, Int.one_mul] at h1 h2 h3 h4 h5
    simp [f_fraction, r_gcd, hb, z, h1, h2, h3, h4, h5, qD]
theorem r_low [Has tab 39 f_law_common] [Has tab 40 f_law_low] (k : Nat) {a b : Int} (hb : b ≠ 0) (hs : Sm (Rat.divInt a b)) (hz : (Int.gcd a b : Nat) < 2 ^ 400000) : run tab (k + 2) 40 [.val (.int a), .val (.int b)] = .ret false (qD (Rat.divInt a b)) [] := by
  rw [run_at (i := 40) inferInstance]
  obtain ⟨h1, h2, h3, h4, h5⟩ := frac_ok hb hs rfl
  have hm1 : mulOk ((Int.gcd a b : Nat) : Int) 1 = true := mulOk_of (a := 400000) (b := 1) hz (by decide) (by decide) (by decide) (by decide)
  have hm2 : mulOk ((Int.gcd a b : Nat) : Int) (-1) = true := mulOk_of (a := 400000) (b := 1) hz (by decide) (by decide) (by decide) (by decide)
  have hc := r_common (tab := tab) k a b
  generalize Int.gcd a b = g at *
  rcases sign_cases hb with ⟨z, e⟩ | ⟨z, e⟩
  · rw [e, Int.neg_mul, Int.one_mul] at h1 h2 h3 h4 h5
    have h3' : (g : Int) ≠ 0 := by omega
    have h3'' : g ≠ 0 := by omega
    simp [f_law_low, hc, biD, biInt, hm2, z, h1, h2, h3'', h4, h5, qD]
  · rw [e, Int.one_mul] at h1 h2 h3 h4 h5
    have h3'' : g ≠ 0 := by omega
    simp [f_law_low, hc, biD, biInt, hm1, z, h1, h2, h3'', h4, h5, qD]
theorem gcd_lt {a b : Int} {n : Nat} (hb : b ≠ 0) (h : b.natAbs < 2 ^ n) : Int.gcd a b < 2 ^ n := Nat.lt_of_le_of_lt (Nat.le_of_dvd (by omega) (Int.gcd_dvd_natAbs_right a b)) h
theorem mulOks {a b : Nat} {i j : Int} (hi : i.natAbs < 2 ^ a) (hj : j.natAbs < 2 ^ b) (h : a + b < 4000) : mulOk i j = true :=
  mulOk_of (a := a + 1) (b := b + 1) (Nat.lt_of_lt_of_le hi (Nat.pow_le_pow_right (by decide) (by omega))) (Nat.lt_of_lt_of_le hj (Nat.pow_le_pow_right (by decide) (by omega))) (by omega) (by omega) (by omega)
/-- what the sums and products of fractions need -/
theorem ops {a b : Nat} {x y : Rat} (hx : Sz a x) (hy : Sz b y) (h : a + b < 4000) : mulOk x.num (y.den : Nat) = true ∧ mulOk y.num (x.den : Nat) = true ∧ mulOk (x.den : Nat) (y.den : Nat) = true ∧ mulOk x.num y.num = true ∧ mulOk (x.den : Nat) y.num = true ∧ ((x.den : Nat) : Int) * (y.den : Nat) ≠ 0 ∧ (∀ t : Int, Int.gcd t ((x.den : Nat) * (y.den : Nat)) < 2 ^ 400000) :=
  ⟨mulOks hx.1 hy.d h, mulOks hy.1 hx.d (by omega), mulOks hx.d hy.d h, mulOks hx.1 hy.1 h, mulOks hx.d hy.1 h, dd_ne x y, fun t => gcd_lt (dd_ne x y) (Nat.lt_of_lt_of_le (lt2 hx.d hy.d) (Nat.pow_le_pow_right (by decide) (by omega)))⟩
section
variable [Has tab 0 f_divisor] [Has tab 1 f_fraction] {a b : Nat} {x y : Rat}
theorem r_plus [Has tab 2 f_plus] (hx : Sz a x) (hy : Sz b y) (h : a + b < 4000) (k : Nat) : run tab (k + 3) 2 [.val (qD x), .val (qD y)] = .ret false (qD (x + y)) [] := by
  rw [run_at (i := 2) inferInstance]
  obtain ⟨o1, o2, o3, _, _, hb, _⟩ := ops hx hy h
  have := r_fraction (tab := tab) k (a := x.num * (y.den : Nat) + y.num * (x.den : Nat)) hb (by rw [← add_eq]; exact (hx.add hy).mono (by omega))
  rw [← add_eq] at this
  simp [f_plus, o1, o2, o3, this]
theorem r_minus [Has tab 3 f_minus] (hx : Sz a x) (hy : Sz b y) (h : a + b < 4000) (k : Nat) : run tab (k + 3) 3 [.val (qD x), .val (qD y)] = .ret false (qD (x - y)) [] := by
  rw [run_at (i := 3) inferInstance]
  obtain ⟨o1, o2, o3, _, _, hb, _⟩ := ops hx hy h
  have := r_fraction (tab := tab) k (a := x.num * (y.den : Nat) - y.num * (x.den : Nat)) hb (by rw [← sub_eq]; exact (hx.sub hy).mono (by omega))
  rw [← sub_eq] at this
  simp [f_minus, o1, o2, o3, this]
theorem r_product [Has tab 4 f_product] (hx : Sz a x) (hy : Sz b y) (h : a + b < 4000) (k : Nat) : run tab (k + 3) 4 [.val (qD x), .val (qD y)] = .ret false (qD (x * y)) [] := by
  rw [run_at (i := 4) inferInstance]
  obtain ⟨_, _, o3, o4, _, hb, _⟩ := ops hx hy h
  have := r_fraction (tab := tab) k (a := x.num * y.num) hb (by rw [← mul_eq]; exact (hx.mul hy).mono (by omega))
  rw [← mul_eq] at this
  simp [f_product, o3, o4, this]
end
section
variable [Has tab 39 f_law_common] [Has tab 40 f_law_low] {a b : Nat} {x y : Rat}
theorem r_lsum [Has tab 42 f_law_sum] (hx : Sz a x) (hy : Sz b y) (h : a + b < 4000) (k : Nat) : run tab (k + 3) 42 [.val (qD x), .val (qD y)] = .ret false (qD (x + y)) [] := by
  rw [run_at (i := 42) inferInstance]
  obtain ⟨o1, o2, o3, _, _, hb, hg⟩ := ops hx hy h
  have := r_low (tab := tab) k (a := x.num * (y.den : Nat) + y.num * (x.den : Nat)) hb (by rw [← add_eq]; exact (hx.add hy).mono (by omega)) (hg _)
  rw [← add_eq] at this
  simp [f_law_sum, o1, o2, o3, this]
theorem r_lless [Has tab 46 f_law_less] (hx : Sz a x) (hy : Sz b y) (h : a + b < 4000) (k : Nat) : run tab (k + 3) 46 [.val (qD x), .val (qD y)] = .ret false (qD (x - y)) [] := by
  rw [run_at (i := 46) inferInstance]
  obtain ⟨o1, o2, o3, _, _, hb, hg⟩ := ops hx hy h
  have := r_low (tab := tab) k (a := x.num * (y.den : Nat) - y.num * (x.den : Nat)) hb (by rw [← sub_eq]; exact (hx.sub hy).mono (by omega)) (hg _)
  rw [← sub_eq] at this
  simp [f_law_less, o1, o2, o3, this]
theorem r_ltimes [Has tab 43 f_law_times] (hx : Sz a x) (hy : Sz b y) (h : a + b < 4000) (k : Nat) : run tab (k + 3) 43 [.val (qD x), .val (qD y)] = .ret false (qD (x * y)) [] := by
  rw [run_at (i := 43) inferInstance]
  obtain ⟨_, _, o3, o4, _, hb, hg⟩ := ops hx hy h
  have := r_low (tab := tab) k (a := x.num * y.num) hb (by rw [← mul_eq]; exact (hx.mul hy).mono (by omega)) (hg _)
  rw [← mul_eq] at this
  simp [f_law_times, o3, o4, this]
end
/-! ### spots and steps -/
/-- a spot of small numbers -/
def Sp (b : Nat) (p : Geo.Pt) : Prop := Sz b p.1 ∧ Sz b p.2
theorem Sp.mono {a b : Nat} {p : Geo.Pt} (h : Sp a p) (hab : a ≤ b) : Sp b p := ⟨h.1.mono hab, h.2.mono hab⟩
def vec (p q : Geo.Pt) : Geo.Pt := (q.1 - p.1, q.2 - p.2)
def gon (p q : Geo.Pt) : Geo.Pt := (p.1 + q.1, p.2 + q.2)
def tms (p : Geo.Pt) (m : Rat) : Geo.Pt := (p.1 * m, p.2 * m)
def dot (p q : Geo.Pt) : Rat := p.1 * q.1 + p.2 * q.2
def crs (p q : Geo.Pt) : Rat := p.1 * q.2 - p.2 * q.1
theorem Sp.vec {a b : Nat} {p q : Geo.Pt} (h : Sp a p) (h' : Sp b q) : Sp (b + a + 1) (vec p q) := ⟨h'.1.sub h.1, h'.2.sub h.2⟩
theorem Sp.gon {a b : Nat} {p q : Geo.Pt} (h : Sp a p) (h' : Sp b q) : Sp (a + b + 1) (gon p q) := ⟨h.1.add h'.1, h.2.add h'.2⟩
theorem Sp.tms {a b : Nat} {p : Geo.Pt} {m : Rat} (h : Sp a p) (h' : Sz b m) : Sp (a + b) (tms p m) := ⟨h.1.mul h', h.2.mul h'⟩
theorem Sp.dot {a b : Nat} {p q : Geo.Pt} (h : Sp a p) (h' : Sp b q) : Sz (a + b + (a + b) + 1) (dot p q) := (h.1.mul h'.1).add (h.2.mul h'.2)
theorem Sp.crs {a b : Nat} {p q : Geo.Pt} (h : Sp a p) (h' : Sp b q) : Sz (a + b + (a + b) + 1) (crs p q) := (h.1.mul h'.2).sub (h.2.mul h'.1)
theorem ori_crs (p q r : Geo.Pt) : Geo.ori p q r = crs (vec p q) (vec p r) := rfl
@[simp] theorem ptup (x y : Rat) : D.tup [qD x, qD y] = pD (x, y) := rfl
section
variable [Has tab 39 f_law_common] [Has tab 40 f_law_low] {a b : Nat} {p q : Geo.Pt} {m : Rat}
theorem r_loften [Has tab 43 f_law_times] [Has tab 45 f_law_often] (hp : Sp a p) (hm : Sz b m) (h : a + b < 4000) (k : Nat) : run tab (k + 4) 45 [.val (pD p), .val (qD m)] = .ret false (pD (tms p m)) [] := by
  rw [run_at (i := 45) inferInstance]
  simp [f_law_often, r_ltimes hp.1 hm h, r_ltimes hp.2 hm h, tms]
theorem r_lstep [Has tab 46 f_law_less] [Has tab 47 f_law_step] (hp : Sp a p) (hq : Sp b q) (h : a + b < 4000) (k : Nat) : run tab (k + 4) 47 [.val (pD p), .val (pD q)] = .ret false (pD (vec p q)) [] := by
  rw [run_at (i := 47) inferInstance]
  simp [f_law_step, r_lless hq.1 hp.1 (by omega : b + a < 4000), r_lless hq.2 hp.2 (by omega : b + a < 4000), vec]
theorem r_lfar [Has tab 42 f_law_sum] [Has tab 48 f_law_far] (hp : Sp a p) (hq : Sp b q) (h : a + b < 4000) (k : Nat) : run tab (k + 4) 48 [.val (pD p), .val (pD q)] = .ret false (pD (gon p q)) [] := by
  rw [run_at (i := 48) inferInstance]
  simp [f_law_far, r_lsum hp.1 hq.1 h, r_lsum hp.2 hq.2 h, gon]
theorem r_ldot [Has tab 42 f_law_sum] [Has tab 43 f_law_times] [Has tab 68 f_law_dot] (hp : Sp a p) (hq : Sp b q) (h : a + b + (a + b) < 4000) (k : Nat) : run tab (k + 4) 68 [.val (pD p), .val (pD q)] = .ret false (qD (dot p q)) [] := by
  rw [run_at (i := 68) inferInstance]
  simp [f_law_dot, r_ltimes hp.1 hq.1 (by omega : a + b < 4000), r_ltimes hp.2 hq.2 (by omega : a + b < 4000), r_lsum (hp.1.mul hq.1) (hp.2.mul hq.2) h, dot]
theorem r_lcross [Has tab 46 f_law_less] [Has tab 43 f_law_times] [Has tab 54 f_law_cross] (hp : Sp a p) (hq : Sp b q) (h : a + b + (a + b) < 4000) (k : Nat) : run tab (k + 4) 54 [.val (pD p), .val (pD q)] = .ret false (qD (crs p q)) [] := by
  rw [run_at (i := 54) inferInstance]
  simp [f_law_cross, r_ltimes hp.1 hq.2 (by omega : a + b < 4000), r_ltimes hp.2 hq.1 (by omega : a + b < 4000), r_lless (hp.1.mul hq.2) (hp.2.mul hq.1) h, crs]
end
section
variable [Has tab 0 f_divisor] [Has tab 1 f_fraction] {a b : Nat} {p q : Geo.Pt} {m : Rat}
theorem r_step [Has tab 3 f_minus] [Has tab 6 f_step_of] (hp : Sp a p) (hq : Sp b q) (h : a + b < 4000) (k : Nat) : run tab (k + 4) 6 [.val (pD p), .val (pD q)] = .ret false (pD (vec p q)) [] := by
  rw [run_at (i := 6) inferInstance]
  simp [f_step_of, r_minus hq.1 hp.1 (by omega : b + a < 4000), r_minus hq.2 hp.2 (by omega : b + a < 4000), vec]
theorem r_dotted [Has tab 2 f_plus] [Has tab 4 f_product] [Has tab 10 f_dotted] (hp : Sp a p) (hq : Sp b q) (h : a + b + (a + b) < 4000) (k : Nat) : run tab (k + 4) 10 [.val (pD p), .val (pD q)] = .ret false (qD (dot p q)) [] := by
  rw [run_at (i := 10) inferInstance]
  simp [f_dotted, r_product hp.1 hq.1 (by omega : a + b < 4000), r_product hp.2 hq.2 (by omega : a + b < 4000), r_plus (hp.1.mul hq.1) (hp.2.mul hq.2) h, dot]
theorem r_crossed [Has tab 3 f_minus] [Has tab 4 f_product] [Has tab 11 f_crossed] (hp : Sp a p) (hq : Sp b q) (h : a + b + (a + b) < 4000) (k : Nat) : run tab (k + 4) 11 [.val (pD p), .val (pD q)] = .ret false (qD (crs p q)) [] := by
  rw [run_at (i := 11) inferInstance]
  simp [f_crossed, r_product hp.1 hq.2 (by omega : a + b < 4000), r_product hp.2 hq.1 (by omega : a + b < 4000), r_minus (hp.1.mul hq.2) (hp.2.mul hq.1) h, crs]
end
/-- 1, 0 or -1 -/
def sgn (x : Rat) : Int := if 0 < x then 1 else if x < 0 then -1 else 0
theorem num_pos' {x : Rat} : 0 < x.num ↔ 0 < x := by
  rw [← Rat.not_le, ← Int.not_le]
  have : x.num ≤ 0 ↔ x ≤ 0 := by
    rw [Rat.le_iff]
    show _ ↔ x.num * ((1 : Nat) : Int) ≤ 0 * ((x.den : Nat) : Int)
    omega
  rw [this]
theorem num_neg' {x : Rat} : x.num < 0 ↔ x < 0 := by
  rw [← Rat.not_le, ← Int.not_le, Rat.num_nonneg]
theorem sgn_eq (x : Rat) : ((if 0 < x.num then 1 else 0) - (if x.num < 0 then 1 else 0) : Int) = sgn x := by
  unfold sgn
  have h1 := @num_pos' x
  have h2 := @num_neg' x
  by_cases a : 0 < x
  · rw [if_pos a, if_pos (h1.mpr a), if_neg (by have := h1.mpr a; omega)]; rfl
  · rw [if_neg a, if_neg (fun z => a (h1.mp z))]
    by_cases b : x < 0
    · rw [if_pos b, if_pos (h2.mpr b)]; rfl
    · rw [if_neg b, if_neg (fun z => b (h2.mp z))]; rfl
theorem sgn_one {x : Rat} : sgn x = 1 ↔ 0 < x := by
  unfold sgn
  split
  · exact ⟨fun _ => by assumption, fun _ => rfl⟩
  · split <;> exact ⟨fun h => by omega, fun h => by contradiction⟩
theorem sgn_neg {x : Rat} : sgn x < 0 ↔ x < 0 := by
  unfold sgn
  split
  · exact ⟨fun h => by omega, fun h => by grind⟩
  · split
    · exact ⟨fun _ => by assumption, fun _ => by omega⟩
    · exact ⟨fun h => by omega, fun h => by contradiction⟩
theorem r_turn [Has tab 0 f_divisor] [Has tab 1 f_fraction] [Has tab 3 f_minus] [Has tab 4 f_product] [Has tab 6 f_step_of] [Has tab 11 f_crossed] [Has tab 12 f_turn] {p q r : Geo.Pt} (hp : Sp 490 p) (hq : Sp 490 q) (hr : Sp 490 r) (k : Nat) : run tab (k + 5) 12 [.val (pD p), .val (pD q), .val (pD r)] = .ret false (.int (sgn (Geo.ori p q r))) [] := by
  rw [run_at (i := 12) inferInstance]
  rw [ori_crs, ← sgn_eq]
  simp [f_turn, r_step hp hq (by decide), r_step hp hr (by decide), r_crossed (hp.vec hq) (hp.vec hr) (by decide), biD, biInt]
theorem r_lhand [Has tab 39 f_law_common] [Has tab 40 f_law_low] [Has tab 43 f_law_times] [Has tab 46 f_law_less] [Has tab 47 f_law_step] [Has tab 54 f_law_cross] [Has tab 55 f_law_hand] {p q r : Geo.Pt} (hp : Sp 490 p) (hq : Sp 490 q) (hr : Sp 490 r) (k : Nat) : run tab (k + 5) 55 [.val (pD p), .val (pD q), .val (pD r)] = .ret false (.int (sgn (Geo.ori p q r))) [] := by
  rw [run_at (i := 55) inferInstance]
  rw [ori_crs, ← sgn_eq]
  simp [f_law_hand, r_lstep hp hq (by decide), r_lstep hp hr (by decide), r_lcross (hp.vec hq) (hp.vec hr) (by decide), biD, biInt]
end
end Vm

/-! ThC: draws. -/
namespace Vm
open PySem L2
/-! ### drawn numbers -/
def dD (s : Int × Int) : D := .lst [.int s.1, .int s.2]
def Dr (s : Int × Int) : Prop := 0 ≤ s.1 ∧ s.1 < 10 ^ 120 ∧ 0 ≤ s.2 ∧ s.2 < 2147483647
@[simp] theorem isL_d (s : Int × Int) : isL (dD s) = true := rfl
@[simp] theorem oo_d (s : Int × Int) : okOut (dD s) = true := rfl
@[simp] theorem okl_d (s : Int × Int) : okLend true (dD s) = true := rfl
@[simp] theorem set0 (a x : D) (l : List D) : setD (.lst (a :: l)) (.int 0) x = some (.lst (x :: l)) := by
  show (ixN (a :: l).length 0).map _ = _
  unfold ixN
  rw [if_pos (by omega), if_pos (by rw [List.length_cons]; omega)]; rfl
@[simp] theorem set1 (a b x : D) (l : List D) : setD (.lst (a :: b :: l)) (.int 1) x = some (.lst (a :: x :: l)) := by
  show (ixN (a :: b :: l).length 1).map _ = _
  unfold ixN
  rw [if_pos (by omega), if_pos (by simp; omega)]; rfl
theorem fdOk_small {i j : Int} (h : j.natAbs < 2 ^ 8999) : fdOk i j = true := by
  unfold fdOk
  rw [PyProof.noPylong_of_log2 (by
    by_cases hj : j.natAbs = 0
    · rw [hj]; decide +kernel
    · exact Nat.lt_of_lt_of_le ((Nat.log2_lt hj).mpr h) (by decide))]
  rfl
theorem small_lt {j : Int} (h0 : 0 ≤ j) (h : j < 2 ^ 64) : j.natAbs < 2 ^ 8999 := Nat.lt_of_lt_of_le (show j.natAbs < 2 ^ 64 by omega) (Nat.pow_le_pow_right (by decide) (by decide))
theorem mulOk_nat {i j : Int} (hi : i.natAbs < 2 ^ 2000) (hj : j.natAbs < 2 ^ 1000) : mulOk i j = true := mulOk_of hi hj (by decide) (by decide) (by decide)
theorem big_lt {i : Int} {b : Nat} (hb : 10 ^ 120 ≤ 2 ^ b) (h : i.natAbs < 10 ^ 120) : i.natAbs < 2 ^ b := Nat.lt_of_lt_of_le h hb
section
variable {tab : Nat → Option Fn}
theorem r_draw0 [Has tab 38 f_law_draw] {s : Int × Int} (hs : Dr s) {m : Nat} (h0 : 0 < m) (hm : m < 2 ^ 60) (k : Nat) : ∃ (v : Nat) (s' : Int × Int), run tab (k + 1) 38 [.own (dD s), .val (.int (m : Nat))] = .ret false (.int (v : Nat)) [dD s'] ∧ v < m ∧ Dr s' := by
  obtain ⟨a, b⟩ := s
  obtain ⟨h1, h2, h3, h4⟩ := hs
  dsimp only at h1 h2 h3 h4
  have hm0 : m ≠ 0 := by omega
  have fm : fdOk a (m : Int) = true := fdOk_small (small_lt (by omega) (by omega))
  have mod : ∀ x : Int, 0 ≤ x.fmod (m : Int) ∧ x.fmod (m : Int) < (m : Int) := fun x => ⟨Int.fmod_nonneg_of_pos _ (by omega), Int.fmod_lt_of_pos _ (by omega)⟩
  by_cases ha : 0 < a
  · refine ⟨(a.fmod (m : Int)).toNat, (a.fdiv (m : Int), b), ?_, ?_, ?_⟩
    · rw [run_at (i := 38) inferInstance]
      have e : ((a.fmod (m : Int)).toNat : Int) = a.fmod (m : Int) := by have := mod a; omega
      simp [f_law_draw, dD, ha, hm0, fm, e]
    · have := mod a; omega
    · have e : a.fdiv (m : Int) = a / (m : Int) := Int.fdiv_eq_ediv_of_nonneg _ (by omega)
      refine ⟨by rw [e]; exact Int.ediv_nonneg h1 (by omega), ?_, h3, h4⟩
      show a.fdiv (m : Int) < 10 ^ 120
      rw [e]
      exact Int.lt_of_le_of_lt (Int.ediv_le_self _ h1) h2
  · let c := (b * 69621).fmod 2147483647
    have hc : 0 ≤ c ∧ c < 2147483647 := ⟨Int.fmod_nonneg_of_pos _ (by decide), Int.fmod_lt_of_pos _ (by decide)⟩
    have hd : 0 ≤ c.fdiv 128 ∧ c.fdiv 128 ≤ c := by
      have e : c.fdiv 128 = c / 128 := Int.fdiv_eq_ediv_of_nonneg _ (by decide)
      rw [e]; omega
    let r := ((c * (c.fdiv 128 + 3)).fmod 2147483629).fdiv 8
    have k1 : mulOk b 69621 = true := mulOk_nat (Nat.lt_of_lt_of_le (show b.natAbs < 2 ^ 31 by omega) (Nat.pow_le_pow_right (by decide) (by decide))) (by decide)
    have k2 : mulOk c (c.fdiv 128 + 3) = true := mulOk_nat (Nat.lt_of_lt_of_le (show c.natAbs < 2 ^ 31 by omega) (Nat.pow_le_pow_right (by decide) (by decide))) (Nat.lt_of_lt_of_le (show (c.fdiv 128 + 3).natAbs < 2 ^ 32 by omega) (Nat.pow_le_pow_right (by decide) (by decide)))
    have k3 : ∀ i : Int, fdOk i 128 = true := fun i => fdOk_small (small_lt (by decide) (by decide))
    have k4 : ∀ i : Int, fdOk i 8 = true := fun i => fdOk_small (small_lt (by decide) (by decide))
    refine ⟨(r.fmod (m : Int)).toNat, (a, c), ?_, ?_, ⟨h1, h2, hc⟩⟩
    · rw [run_at (i := 38) inferInstance]
      have e : ((r.fmod (m : Int)).toNat : Int) = r.fmod (m : Int) := by have := mod r; omega
      rw [e]
      simp [f_law_draw, dD, ha, hm0, k1, k2, k3, k4, c, r]
    · have := mod r; omega
theorem r_draw [Has tab 38 f_law_draw] {s : Int × Int} (hs : Dr s) (i : Int) {m : Nat} (hi : i = (m : Nat)) (h0 : 0 < m) (hm : m < 2 ^ 60) (k : Nat) : ∃ (v : Nat) (s' : Int × Int), run tab (k + 1) 38 [.own (dD s), .val (.int i)] = .ret false (.int (v : Nat)) [dD s'] ∧ v < m ∧ Dr s' := by
  subst hi; exact r_draw0 hs h0 hm k
@[simp] theorem len_sc (l : List Int) : biD .len [.sc l] = some (.int (l.length : Nat)) := rfl
@[simp] theorem ix_sc (l : List Int) (k : Int) : idxD (.sc l) (.int k) = (atI l k).map .int := rfl
def T60 : Int := 10 ^ 60
def T18 : Int := 10 ^ 18
def T15 : Int := 10 ^ 15
theorem p60 : binD .pow (.int 10) (.int 60) = some (.int T60) := by rw [bd6, if_pos (by decide +kernel)]; rfl
theorem p18 : binD .pow (.int 10) (.int 18) = some (.int T18) := by rw [bd6, if_pos (by decide +kernel)]; rfl
theorem p15 : binD .pow (.int 10) (.int 15) = some (.int T15) := by rw [bd6, if_pos (by decide +kernel)]; rfl
theorem T60ok : mulOk T60 T60 = true ∧ T60 * T60 = 10 ^ 120 ∧ T60 * T60 ≠ 0 ∧ T15 ≠ 0 ∧ (0 : Int) < T15 ∧ T15 = 1000000000000000 := by decide +kernel
theorem r_draws [Has tab 37 f_law_draws] (ns : List Int) {j : Nat} (hj : j < 2 ^ 30) (k : Nat) : ∃ s : Int × Int, run tab (k + 1) 37 [.val (.sc ns), .val (.int (j : Nat))] = .ret true (dD s) [] ∧ Dr s := by
  have fin : ∀ c : Int, 0 ≤ c → c < 10 ^ 120 → mulOk c 1 = true ∧ mulOk c 0 = true ∧ mulOk c 69621 = true := fun c h0 h1 => by
    have : c.natAbs < 2 ^ 2000 := big_lt (b := 2000) (by decide) (by omega)
    exact ⟨mulOk_nat this (by decide), mulOk_nat this (by decide), mulOk_nat this (by decide)⟩
  have dr : ∀ c x : Int, 0 ≤ c → c < 10 ^ 120 → Dr (c * (if T18 ≤ c then 1 else 0), 1 + x.fmod 2147483646) := fun c x h0 h1 => by
    have e : 0 ≤ x.fmod 2147483646 ∧ x.fmod 2147483646 < 2147483646 := ⟨Int.fmod_nonneg_of_pos _ (by decide), Int.fmod_lt_of_pos _ (by decide)⟩
    refine ⟨?_, ?_, ?_, ?_⟩
    · show 0 ≤ c * (if T18 ≤ c then 1 else 0); split <;> omega
    · show c * (if T18 ≤ c then 1 else 0) < 10 ^ 120
      split
      · omega
      · rw [Int.mul_zero]; decide
    · show 0 ≤ 1 + x.fmod 2147483646; omega
    · show 1 + x.fmod 2147483646 < 2147483647; omega
  have m1 : mulOk 15485863 (j : Int) = true := mulOk_nat (by decide) (Nat.lt_of_lt_of_le (show ((j : Nat) : Int).natAbs < 2 ^ 30 by omega) (Nat.pow_le_pow_right (by decide) (by decide)))
  have m2 : mulOk 86028121 ((j : Int) + 1) = true := mulOk_nat (by decide) (Nat.lt_of_lt_of_le (show ((j : Int) + 1).natAbs < 2 ^ 31 by omega) (Nat.pow_le_pow_right (by decide) (by decide)))
  obtain ⟨m3, m4, m5, m6, m7, m8⟩ := T60ok
  have mod : ∀ x m : Int, 0 < m → 0 ≤ x.fmod m ∧ x.fmod m < m := fun x m hm => ⟨Int.fmod_nonneg_of_pos _ hm, Int.fmod_lt_of_pos _ hm⟩
  let C : Int := if h : j < ns.length then ns[j].fmod (T60 * T60) else if 0 < ns.length then (ns[j % ns.length]?.getD 0).fmod T15 + 15485863 * (j : Int) else 15485863 * (j : Int)
  have hC : 0 ≤ C ∧ C < 10 ^ 120 := by
    show 0 ≤ (if h : j < ns.length then ns[j].fmod (T60 * T60) else if 0 < ns.length then (ns[j % ns.length]?.getD 0).fmod T15 + 15485863 * (j : Int) else 15485863 * (j : Int)) ∧ (if h : j < ns.length then ns[j].fmod (T60 * T60) else if 0 < ns.length then (ns[j % ns.length]?.getD 0).fmod T15 + 15485863 * (j : Int) else 15485863 * (j : Int)) < 10 ^ 120
    split
    · have := mod ns[j] (T60 * T60) (by rw [m4]; decide)
      rw [m4] at this ⊢
      omega
    · split
      · have := mod (ns[j % ns.length]?.getD 0) T15 m7
        rw [m8] at this ⊢
        omega
      · omega
  obtain ⟨f1, f2, f3⟩ := fin C hC.1 hC.2
  refine ⟨_, ?_, dr C (C * 69621 + 86028121 * ((j : Int) + 1)) hC.1 hC.2⟩
  rw [run_at (i := 37) inferInstance]
  have key : ∀ (e1 : Slot), evS (run tab k) (.ret (.lst (.cons (.bin .mul (.var 2) (.bi .int (.cons (.cmp .ge (.var 2) (.bin .pow (.con (.int 10)) (.con (.int 18)))) .nil))) (.cons (.bin .add (.con (.int 1)) (.bin .mod (.bin .add (.bin .mul (.var 2) (.con (.int 69621))) (.bin .mul (.con (.int 86028121)) (.bin .add (.var 1) (.con (.int 1))))) (.con (.int 2147483646)))) .nil)))) [] [e1, .val (.int (j : Nat)), .val (.int C)] = .ret true (dD (C * (if T18 ≤ C then 1 else 0), 1 + (C * 69621 + 86028121 * ((j : Int) + 1)).fmod 2147483646)) [e1, .val (.int (j : Nat)), .val (.int C)] := fun e1 => by
    by_cases hc : T18 ≤ C
    · simp [hc, f1, f3, m2, biD, biInt, dD, p18, -bd6]
    · simp [hc, f2, f3, m2, biD, biInt, dD, p18, -bd6]
  by_cases h1 : j < ns.length
  · have e : C = ns[j].fmod (T60 * T60) := dif_pos h1
    have g : atI ns (j : Int) = some ns[j] := by rw [atI_nat, List.getElem?_eq_getElem h1]
    have m5' : ¬ T60 = 0 := fun z => m5 (by rw [z]; rfl)
    simp [f_law_draws, m1, h1, g, p60, p18, m3, m5', ← e, key, -bd6, -st_ret_lst]
  · by_cases h2 : 0 < ns.length
    · have e : C = (ns[j % ns.length]?.getD 0).fmod T15 + 15485863 * (j : Int) := by show (if h : j < ns.length then _ else _) = _; rw [dif_neg h1, if_pos h2]
      have e1 : ((j : Int).fmod (ns.length : Int)) = ((j % ns.length : Nat) : Int) := by
        rw [Int.fmod_eq_emod_of_nonneg _ (by omega)]; rfl
      have hlt : j % ns.length < ns.length := Nat.mod_lt _ h2
      have g : atI ns ((j % ns.length : Nat) : Int) = some ns[j % ns.length] := by rw [atI_nat, List.getElem?_eq_getElem hlt]
      rw [List.getElem?_eq_getElem hlt, Option.getD_some] at e
      have h3 : ns ≠ [] := by intro z; subst z; simp at h2
      have h1' : ns.length ≤ j := by omega
      simp [f_law_draws, m1, h1, h1', h2, h3, e1, g, p15, p18, m6, ← e, key, -bd6, -st_ret_lst, -Int.natCast_emod]
    · have e : C = 15485863 * (j : Int) := by show (if h : j < ns.length then _ else _) = _; rw [dif_neg h1, if_neg h2]
      have h3 : ns = [] := List.length_eq_zero_iff.mp (by omega)
      subst h3
      have h4 : ¬ (j : Int) < 0 := by omega
      simp [f_law_draws, m1, h4, p18, ← e, key, -bd6, -st_ret_lst]
end
end Vm

/-! ThD: drawn figures, spots within. -/
namespace Vm
open PySem L2
section
variable {tab : Nat → Option Fn}
def M6 : Int := 1000000
theorem M6_eq : M6 = ((1000000 : Nat) : Int) := rfl
theorem p6 : binD .pow (.int 10) (.int 6) = some (.int M6) := by rw [bd6, if_pos (by decide +kernel)]; rfl
theorem fig_loop [Has tab 38 f_law_draw] (k : Nat) (d1 : D) : ∀ (l : List D) (t a : Nat) (s : Int × Int) (s3 : Slot), Dr s → a < 1000000 ^ t → t + l.length ≤ 7 →
    ∃ (a' : Nat) (s' : Int × Int) (s3' : Slot), forS (run tab (k + 1)) [0] false [3] b_law_figures_1 l [.own (dD s), .val d1, .val (.int (a : Nat)), s3] = .next [.own (dD s'), .val d1, .val (.int (a' : Nat)), s3'] ∧ Dr s' ∧ a' < 1000000 ^ (t + l.length)
  | [], t, a, s, s3, hs, ha, _ => ⟨a, s, s3, rfl, hs, ha⟩
  | d :: l, t, a, s, s3, hs, ha, hl => by
    obtain ⟨v, s', h, hv, hs'⟩ := r_draw (tab := tab) hs M6 (m := 1000000) M6_eq (by decide) (by decide) k
    have hl' : t + 1 + l.length ≤ 7 := by simp at hl; omega
    have hb : a * 1000000 + v < 1000000 ^ (t + 1) := by rw [Nat.pow_succ]; omega
    obtain ⟨a', s'', s3', h2, h3, h4⟩ := fig_loop k d1 l (t + 1) (a * 1000000 + v) s' (.val d) hs' hb hl'
    refine ⟨a', s'', s3', ?_, h3, by simp; rw [show t + (l.length + 1) = t + 1 + l.length by omega]; exact h4⟩
    have hm : mulOk ((a : Nat) : Int) M6 = true := mulOk_nat (by
      have : a < 1000000 ^ 7 := Nat.lt_of_lt_of_le ha (Nat.pow_le_pow_right (by decide) (by omega))
      exact Nat.lt_of_lt_of_le (show ((a : Nat) : Int).natAbs < 1000000 ^ 7 by omega) (by decide +kernel)) (by decide)
    have hz : (((a * 1000000 + v : Nat)) : Int) = (a : Int) * M6 + v := by rw [M6_eq]; simp
    rw [hz] at h2
    rw [forS_cons, ← h2]
    simp [b_law_figures_1, p6, h, hm, -bd6]
theorem r_figures [Has tab 38 f_law_draw] [Has tab 41 f_law_figures] {s : Int × Int} (hs : Dr s) {m : Nat} (h0 : 0 < m) (hm : m ≤ 6) (k : Nat) : ∃ (v : Int) (s' : Int × Int), run tab (k + 2) 41 [.own (dD s), .val (.int (m : Nat))] = .ret false (.int v) [dD s'] ∧ v.natAbs < 2 ^ 140 ∧ Dr s' := by
  obtain ⟨v1, s1, h1, hv1, hs1⟩ := r_draw (tab := tab) hs M6 (m := 1000000) M6_eq (by decide) (by decide) k
  obtain ⟨v2, s2, h2, hv2, hs2⟩ := r_draw (tab := tab) hs1 (m : Nat) (m := m) rfl h0 (by omega) k
  obtain ⟨a, s3, z, h3, hs3, ha⟩ := fig_loop (tab := tab) k (.int (m : Nat)) (idxs 0 v2) 1 v1 s2 .emp hs2 (by simpa using hv1) (by unfold idxs; simp; omega)
  obtain ⟨v4, s4, h4, hv4, hs4⟩ := r_draw (tab := tab) hs3 3 (m := 3) rfl (by decide) (by decide) k
  have hb : a < 2 ^ 139 := by
    have : a < 1000000 ^ 6 := Nat.lt_of_lt_of_le ha (Nat.pow_le_pow_right (by decide) (by unfold idxs; simp; omega))
    exact Nat.lt_of_lt_of_le this (by decide +kernel)
  have hr := rng_len v2 (by omega)
  have e140 : (2 : Nat) ^ 140 = 2 ^ 139 * 2 := Nat.pow_succ ..
  have e1 : 8 < (2 : Nat) ^ 139 := by decide +kernel
  rw [e140]
  generalize (2 : Nat) ^ 139 = N at hb e1 ⊢
  rcases (show v4 = 0 ∨ v4 = 1 ∨ v4 = 2 by omega) with rfl | rfl | rfl
  · refine ⟨a, s4, ?_, by omega, hs4⟩
    rw [run_at (i := 41) inferInstance]
    simp [f_law_figures, p6, h1, h2, hr, h3, h4, -bd6]
  · refine ⟨0 - a, s4, ?_, by omega, hs4⟩
    rw [run_at (i := 41) inferInstance]
    simp [f_law_figures, p6, h1, h2, hr, h3, h4, -bd6]
  · have : 0 ≤ (a : Int).fmod 7 ∧ (a : Int).fmod 7 < 7 := ⟨Int.fmod_nonneg_of_pos _ (by decide), Int.fmod_lt_of_pos _ (by decide)⟩
    refine ⟨(a : Int).fmod 7 - 3, s4, ?_, by omega, hs4⟩
    rw [run_at (i := 41) inferInstance]
    simp [f_law_figures, p6, h1, h2, hr, h3, h4, -bd6]
end
end Vm

/-! ThE: numbers with a common bottom; spots within a face. -/
namespace Vm
open PySem L2 Geo
/-- n/D, of at most M either way -/
def Gd (D M : Nat) (x : Rat) : Prop := ∃ n : Int, x * (D : Rat) = (n : Rat) ∧ n.natAbs ≤ M * D
theorem natCast_ne {D : Nat} (h : 0 < D) : (D : Rat) ≠ 0 := by
  intro z
  have : (D : Rat).num = 0 := by rw [z]; rfl
  rw [Rat.num_natCast] at this
  omega
theorem Gd.sz {D M b : Nat} {x : Rat} (h : Gd D M x) (h0 : 0 < D) (h1 : D < 2 ^ b) (h2 : M * D < 2 ^ b) : Sz b x := by
  obtain ⟨n, e, hn⟩ := h
  have hd : ((D : Nat) : Int) ≠ 0 := by omega
  have hx : x = Rat.divInt n (D : Nat) := by
    rw [Rat.divInt_eq_div]
    have := natCast_ne h0
    show x = (n : Rat) / (((D : Nat) : Int) : Rat)
    rw [Rat.intCast_natCast]
    grind
  obtain ⟨h3, h4⟩ := divInt_le (a := n) hd
  rw [← hx] at h3 h4
  exact ⟨by omega, by omega⟩
theorem cast_le {a b : Nat} (h : a ≤ b) : a ≤ b := h
theorem Gd.mono {D M N : Nat} {x : Rat} (h : Gd D M x) (hm : M ≤ N) : Gd D N x := let ⟨n, e, hn⟩ := h; ⟨n, e, Nat.le_trans hn (Nat.mul_le_mul_right D hm)⟩
theorem Gd.widen {D M : Nat} {x : Rat} (h : Gd D M x) (T : Nat) : Gd (D * T) M x := by
  obtain ⟨n, e, hn⟩ := h
  refine ⟨n * T, ?_, ?_⟩
  · rw [Rat.natCast_mul, Rat.intCast_mul, ← e, Rat.intCast_natCast]; grind
  · rw [Int.natAbs_mul, ← Nat.mul_assoc]
    exact Nat.mul_le_mul hn (by omega)
theorem Gd.add {D M N : Nat} {x y : Rat} (h : Gd D M x) (h' : Gd D N y) : Gd D (M + N) (x + y) := by
  obtain ⟨n, e, hn⟩ := h
  obtain ⟨m, f, hm⟩ := h'
  refine ⟨n + m, ?_, ?_⟩
  · rw [Rat.intCast_add, ← e, ← f]; grind
  · rw [Nat.add_mul]; omega
theorem Gd.neg {D M : Nat} {x : Rat} (h : Gd D M x) : Gd D M (-x) := by
  obtain ⟨n, e, hn⟩ := h
  refine ⟨-n, ?_, by omega⟩
  rw [Rat.intCast_neg, ← e]; grind
theorem Gd.sub {D M N : Nat} {x y : Rat} (h : Gd D M x) (h' : Gd D N y) : Gd D (M + N) (x - y) := by
  have := h.add h'.neg
  have e : x + -y = x - y := by grind
  rwa [e] at this
theorem Gd.mul {D E M N : Nat} {x y : Rat} (h : Gd D M x) (h' : Gd E N y) : Gd (D * E) (M * N) (x * y) := by
  obtain ⟨n, e, hn⟩ := h
  obtain ⟨m, f, hm⟩ := h'
  refine ⟨n * m, ?_, ?_⟩
  · rw [Rat.natCast_mul, Rat.intCast_mul, ← e, ← f]; grind
  · rw [Int.natAbs_mul]
    calc n.natAbs * m.natAbs ≤ (M * D) * (N * E) := Nat.mul_le_mul hn hm
      _ = M * N * (D * E) := by ac_rfl
theorem Gd.int {M : Nat} {i : Int} (h : i.natAbs ≤ M) : Gd 1 M (i : Rat) := ⟨i, by show (i : Rat) * ((1 : Nat) : Rat) = _; grind, by omega⟩
theorem Gd.zero {D M : Nat} : Gd D M 0 := ⟨0, by simp, by simp⟩
/-- taken by a whole number's part -/
theorem Gd.part {D M T : Nat} {x : Rat} (h : Gd D (M * T) x) (hT : 0 < T) : Gd (D * T) M (x * (1 / (T : Rat))) := by
  obtain ⟨n, e, hn⟩ := h
  have := natCast_ne hT
  refine ⟨n, ?_, ?_⟩
  · rw [Rat.natCast_mul, ← e]; grind
  · calc n.natAbs ≤ M * T * D := hn
      _ = M * (D * T) := by ac_rfl
def Gp (D M : Nat) (p : Pt) : Prop := Gd D M p.1 ∧ Gd D M p.2
theorem Gp.sp {D M b : Nat} {p : Pt} (h : Gp D M p) (h0 : 0 < D) (h1 : D < 2 ^ b) (h2 : M * D < 2 ^ b) : Sp b p := ⟨h.1.sz h0 h1 h2, h.2.sz h0 h1 h2⟩
theorem Gp.widen {D M : Nat} {p : Pt} (h : Gp D M p) (T : Nat) : Gp (D * T) M p := ⟨h.1.widen T, h.2.widen T⟩
/-! ### weights -/
/-- ori of the spots S/W, times W -/
def lin (s t : Pt) (W : Rat) (S : Pt) : Rat := (t.1 - s.1) * (S.2 - W * s.2) - (t.2 - s.2) * (S.1 - W * s.1)
theorem lin_add (s t : Pt) (W w : Rat) (S p : Pt) : lin s t (W + w) (gon S (tms p w)) = lin s t W S + w * ori s t p := by unfold lin gon tms ori; grind
theorem lin_spot (s t : Pt) {W : Rat} (hW : W ≠ 0) (S : Pt) : ori s t (tms S (1 / W)) * W = lin s t W S := by unfold lin tms ori; grind
theorem lin_zero (s t : Pt) : lin s t 0 (0, 0) = 0 := by unfold lin; grind
/-- weights above nought at the corners -/
structure Wtd (P : Nat → Pt) (cs : List Nat) (W : Nat) (S : Pt) : Prop where
  le : ∀ s t, (∀ c ∈ cs, 0 ≤ ori s t (P c)) → 0 ≤ lin s t W S
  lt : ∀ s t, (∀ c ∈ cs, 0 ≤ ori s t (P c)) → (∃ c ∈ cs, 0 < ori s t (P c)) → 0 < lin s t W S
theorem Wtd.nil (P : Nat → Pt) : Wtd P [] 0 (0, 0) := ⟨fun s t _ => by
  have := lin_zero s t
  show 0 ≤ lin s t ((0 : Nat) : Rat) (0, 0)
  have e : ((0 : Nat) : Rat) = 0 := rfl
  rw [e, this]; exact Rat.le_refl, fun s t _ ⟨c, hc, _⟩ => nomatch hc⟩
theorem natCast_pos' {w : Nat} (h : 0 < w) : (0 : Rat) < (w : Rat) := by
  rw [Rat.lt_iff, Rat.num_natCast, Rat.den_natCast]
  show (0 : Int) * ((1 : Nat) : Int) < (w : Int) * ((1 : Nat) : Int)
  omega
theorem Wtd.snoc {P : Nat → Pt} {cs : List Nat} {W w : Nat} {S : Pt} {c : Nat} (h : Wtd P cs W S) (hw : 0 < w) : Wtd P (cs ++ [c]) (W + w) (gon S (tms (P c) w)) := by
  have hw' := natCast_pos' hw
  have e : ∀ s t, lin s t ((W + w : Nat) : Rat) (gon S (tms (P c) w)) = lin s t W S + w * ori s t (P c) := fun s t => by rw [Rat.natCast_add, lin_add]
  refine ⟨fun s t hs => ?_, fun s t hs hx => ?_⟩
  · rw [e]
    have h1 := h.le s t fun x hx => hs x (List.mem_append_left _ hx)
    have h2 := Rat.mul_nonneg (Rat.le_of_lt hw') (hs c (by simp))
    grind
  · rw [e]
    have h1 := h.le s t fun x hx => hs x (List.mem_append_left _ hx)
    obtain ⟨x, hx, px⟩ := hx
    rcases List.mem_append.mp hx with hx | hx
    · have h3 := h.lt s t (fun x hx => hs x (List.mem_append_left _ hx)) ⟨x, hx, px⟩
      have h2 := Rat.mul_nonneg (Rat.le_of_lt hw') (hs c (by simp))
      grind
    · rw [List.mem_singleton.mp hx] at px
      have h2 := Rat.mul_pos hw' px
      grind
/-- the spot of the weights lies within a ring without bays -/
theorem Wtd.int {P : Nat → Pt} {f : List Nat} {W : Nat} {S : Pt} (h : Wtd P f W S) (hW : 0 < W) (hf : Bay P f) : Inn P f (tms S (1 / (W : Rat))) := fun u v hs => by
  have hp := natCast_pos' hW
  have h1 := h.lt (P u) (P v) (fun c hc => hf.le hs hc) (hf.third hs)
  rw [← lin_spot _ _ (natCast_ne hW)] at h1
  exact pos_of_mul h1 hp
/-! ### _law_inside -/
def pf (pts : List Pt) (i : Nat) : Pt := pts[i]?.getD (0, 0)
theorem pf_eq {pts : List Pt} {i : Nat} (h : i < pts.length) : pf pts i = pts[i] := by unfold pf; rw [List.getElem?_eq_getElem h]; rfl
theorem ix_pf {l : List Pt} {k : Nat} (h : k < l.length) : idxD (ptsL l) (nD k) = some (pD (pf l k)) ∧ idxD (ptsT l) (nD k) = some (pD (pf l k)) := by rw [pf_eq h]; exact ix_pts h
theorem q_int (i : Int) : D.tup [.int i, .int 1] = qD (i : Rat) := by unfold qD; rw [Rat.num_intCast, Rat.den_intCast]; rfl
theorem q_nat (i : Nat) : D.tup [.int (i : Int), .int 1] = qD (i : Rat) := by unfold qD; rw [Rat.num_natCast, Rat.den_natCast]; rfl
theorem q_part {T : Nat} (h : 0 < T) : D.tup [.int 1, .int (T : Nat)] = qD (1 / (T : Rat)) := by
  have e : (1 / (T : Rat)) = { num := 1, den := T, den_nz := by omega, reduced := by simp [Nat.Coprime] } := by
    rw [Rat.mk_eq_divInt, Rat.divInt_eq_div]; rfl
  rw [e]; rfl
theorem q_zero : D.tup [.int 0, .int 1] = qD 0 := rfl
theorem q_one : D.tup [.int 1, .int 1] = qD 1 := rfl
end Vm
namespace Vm
open PySem L2 Geo
section
variable {tab : Nat → Option Fn}
theorem Gp.add_w {D M W w : Nat} {S p : Pt} (h : Gp D (M * W) S) (hp : Gp D M p) : Gp D (M * (W + w)) (gon S (tms p (w : Rat))) := by
  have e : ∀ {x y : Rat}, Gd D (M * W) x → Gd D M y → Gd D (M * (W + w)) (x + y * (w : Rat)) := fun {x y} hx hy => by
    have hw : Gd 1 w ((w : Nat) : Rat) := by
      have := Gd.int (M := w) (i := (w : Int)) (by omega)
      rwa [Rat.intCast_natCast] at this
    have h1 := hy.mul hw
    rw [Nat.mul_one] at h1
    have h2 := hx.add h1
    rwa [← Nat.mul_add] at h2
  exact ⟨e h.1 hp.1, e h.2 hp.2⟩
theorem sz_nat {w b : Nat} (h : w < 2 ^ b) (hb : 0 < b) : Sz b (w : Rat) := ⟨by rw [Rat.num_natCast]; omega, by rw [Rat.den_natCast]; exact Nat.one_lt_two_pow (by omega)⟩
theorem sz_part {T b : Nat} (h0 : 0 < T) (h : T < 2 ^ b) : Sz b (1 / (T : Rat)) := by
  have e : (1 / (T : Rat)) = { num := 1, den := T, den_nz := by omega, reduced := by simp [Nat.Coprime] } := by
    rw [Rat.mk_eq_divInt, Rat.divInt_eq_div]; rfl
  rw [e]
  refine ⟨?_, h⟩
  show 1 < 2 ^ b
  omega
theorem inside_loop [Has tab 38 f_law_draw] [Has tab 39 f_law_common] [Has tab 40 f_law_low] [Has tab 42 f_law_sum] [Has tab 43 f_law_times] [Has tab 45 f_law_often] [Has tab 48 f_law_far] (k : Nat) {P : Nat → Pt} {pd d1 : D} {N M n : Nat}
    (h0 : 0 < N) (hD : N < 2 ^ 400) (hM : M * 256 * N < 2 ^ 400) (hpd : ∀ c, c < n → idxD pd (nD c) = some (pD (P c)) ∧ Gp N M (P c)) :
    ∀ (cs done : List Nat) (W : Nat) (S : Pt) (s : Int × Int) (s5 s6 : Slot), Dr s → (∀ c ∈ cs, c < n) → Wtd P done W S → Gp N (M * W) S → done.length ≤ W → W ≤ 4 * done.length → done.length + cs.length ≤ 64 →
      ∃ (W' : Nat) (S' : Pt) (s' : Int × Int) (s5' s6' : Slot), forS (run tab (k + 4)) [2] false [5] b_law_inside_1 (cs.map nD) [.val pd, .val d1, .own (dD s), .val (.int (W : Nat)), .val (pD S), s5, s6] = .next [.val pd, .val d1, .own (dD s'), .val (.int (W' : Nat)), .val (pD S'), s5', s6'] ∧
        Dr s' ∧ Wtd P (done ++ cs) W' S' ∧ Gp N (M * W') S' ∧ (done ++ cs).length ≤ W' ∧ W' ≤ 4 * (done ++ cs).length
  | [], done, W, S, s, s5, s6, hs, _, hw, hg, l1, l2, _ => ⟨W, S, s, s5, s6, rfl, hs, by rwa [List.append_nil], hg, by rwa [List.append_nil], by rwa [List.append_nil]⟩
  | c :: cs, done, W, S, s, s5, s6, hs, hc, hw, hg, l1, l2, l3 => by
    obtain ⟨v, s1, hv, lv, hs1⟩ := r_draw (tab := tab) hs 4 (m := 4) rfl (by decide) (by decide) (k + 3)
    have l3' : done.length + (cs.length + 1) ≤ 64 := by simpa using l3
    obtain ⟨W', S', s', s5', s6', e, r1, r2, r3, r4, r5⟩ := inside_loop k h0 hD hM hpd cs (done ++ [c]) (W + (1 + v)) (gon S (tms (P c) ((1 + v : Nat) : Rat))) s1 (.val (nD c)) (.val (.int (1 + (v : Int)))) hs1 (fun x hx => hc x (List.mem_cons_of_mem _ hx)) (hw.snoc (by omega)) (hg.add_w (hpd c (hc c List.mem_cons_self)).2) (by simp; omega) (by simp; omega) (by simp; omega)
    refine ⟨W', S', s', s5', s6', ?_, r1, by simpa using r2, r3, by simpa using r4, by simpa using r5⟩
    obtain ⟨p1, p2⟩ := hpd c (hc c List.mem_cons_self)
    have hW : W ≤ 256 := by omega
    have z1 : Sp 400 (P c) := p2.sp h0 hD (Nat.lt_of_le_of_lt (Nat.mul_le_mul_right N (Nat.le_mul_of_pos_right M (by decide))) hM)
    have z2 : Sp 400 S := hg.sp h0 hD (Nat.lt_of_le_of_lt (Nat.mul_le_mul_right N (Nat.mul_le_mul_left M hW)) hM)
    have z3 : Sz 3 ((1 + v : Nat) : Rat) := sz_nat (by omega) (by decide)
    have o1 := r_loften (tab := tab) z1 z3 (by decide) k
    have o2 := r_lfar (tab := tab) z2 (z1.tms z3) (by decide) k
    have q1 : D.tup [.int (1 + (v : Int)), .int 1] = qD ((1 + v : Nat) : Rat) := by rw [← q_nat]; rfl
    have q2 : (((W + (1 + v) : Nat)) : Int) = (W : Int) + (1 + (v : Int)) := by omega
    rw [q2] at e
    generalize ((1 + v : Nat) : Rat) = w at *
    rw [List.map_cons, forS_cons, ← e]
    simp [b_law_inside_1, hv, p1, q1, o1, o2]
theorem r_inside [Has tab 38 f_law_draw] [Has tab 39 f_law_common] [Has tab 40 f_law_low] [Has tab 42 f_law_sum] [Has tab 43 f_law_times] [Has tab 45 f_law_often] [Has tab 48 f_law_far] [Has tab 51 f_law_inside] (k : Nat) {P : Nat → Pt} {pd : D} {N M n : Nat}
    (h0 : 0 < N) (hD : N < 2 ^ 400) (hM : M * 256 * N < 2 ^ 400) (hpd : ∀ c, c < n → idxD pd (nD c) = some (pD (P c)) ∧ Gp N M (P c)) {f : List Nat} (hf : Bay P f) (hl : f.length ≤ 64) (hn : ∀ c ∈ f, c < n) {s : Int × Int} (hs : Dr s) :
    ∃ (q : Pt) (T : Nat) (s' : Int × Int), run tab (k + 5) 51 [.val pd, .val (rD f), .own (dD s)] = .ret false (pD q) [dD s'] ∧ Dr s' ∧ Inn P f q ∧ 0 < T ∧ T ≤ 256 ∧ Gp (N * T) M q := by
  obtain ⟨W, S, s', s5, s6, e, r1, r2, r3, r4, r5⟩ := inside_loop (tab := tab) k (d1 := rD f) h0 hD hM hpd f [] 0 (0, 0) s .emp .emp hs hn (Wtd.nil P) ⟨Gd.zero, Gd.zero⟩ (Nat.le_refl _) (Nat.le_refl _) (by simpa using hl)
  have hlen := hf.len
  simp only [List.nil_append] at r2 r4 r5
  have hW : W ≤ 256 := by omega
  have z2 : Sp 400 S := r3.sp h0 hD (Nat.lt_of_le_of_lt (Nat.mul_le_mul_right N (Nat.mul_le_mul_left M hW)) hM)
  have z3 : Sz 9 (1 / (W : Rat)) := sz_part (by omega) (by omega)
  have o1 := r_loften (tab := tab) z2 z3 (by decide) k
  refine ⟨tms S (1 / (W : Rat)), W, s', ?_, r1, r2.int (by omega) hf, by omega, hW, ⟨r3.1.part (by omega), r3.2.part (by omega)⟩⟩
  rw [run_at (i := 51) inferInstance]
  have q1 : D.tup [.int 0, .int 1] = qD 0 := rfl
  have q2 := q_part (T := W) (by omega)
  have e' : forS (run tab (k + 4)) [2] false [5] b_law_inside_1 (f.map nD) [.val pd, .val (rD f), .own (dD s), .val (.int 0), .val (pD (0, 0)), .emp, .emp] = _ := e
  simp [f_law_inside, q1, q2, e', o1]
end
end Vm

/-! ThF: slices, comprehensions, rings; poked and cut faces. -/
namespace Vm
open PySem L2 Geo
/-! ### slices -/
theorem sIx_last (n d : Nat) : HT.sIx n d (some (-1)) = n - 1 := by
  unfold HT.sIx
  simp
  omega
theorem cut_to {α : Type} (l : List α) (k : Nat) : cutL l none (some (k : Int)) = l.take k := by
  unfold cutL
  rw [HT.sIx_nat, HT.sIx_none, List.drop_zero, Nat.sub_zero]
  by_cases h : k ≤ l.length
  · rw [Nat.min_eq_left h]
  · rw [Nat.min_eq_right (by omega), List.take_of_length_le (Nat.le_refl _), List.take_of_length_le (by omega)]
theorem cut_from {α : Type} (l : List α) (k : Nat) : cutL l (some (k : Int)) none = l.drop k := by
  unfold cutL
  rw [HT.sIx_nat, HT.sIx_none]
  by_cases h : k ≤ l.length
  · rw [Nat.min_eq_left h]; exact List.take_of_length_le (by rw [List.length_drop]; exact Nat.le_refl _)
  · rw [Nat.min_eq_right (by omega), List.drop_of_length_le (Nat.le_refl _), List.drop_of_length_le (by omega)]; simp
theorem cut_mid {α : Type} (l : List α) : cutL l (some 1) (some (-1)) = (l.drop 1).dropLast := by
  unfold cutL
  have h1 : HT.sIx l.length 0 (some 1) = min 1 l.length := HT.sIx_nat l.length 0 1
  rw [h1, sIx_last, List.dropLast_eq_take, List.length_drop]
  cases l with
  | nil => rfl
  | cons a r =>
    have : min 1 (a :: r).length = 1 := by simp
    rw [this]
@[simp] theorem slc_tup (l : List D) (a b : Option Int) : slcD (.tup l) a b = some (.tup (cutL l a b)) := rfl
@[simp] theorem slc_lst (l : List D) (a b : Option Int) : slcD (.lst l) a b = some (.lst (cutL l a b)) := rfl
theorem slc_fcs_to (l : List (List Nat)) (k : Nat) : slcD (fcsL l) none (some (k : Int)) = some (fcsL (l.take k)) := by
  show some (D.lst (cutL (l.map rD) none (some (k : Int)))) = _
  rw [cut_to, ← List.map_take]; rfl
theorem slc_fcs_from (l : List (List Nat)) (k : Nat) : slcD (fcsL l) (some (k : Int)) none = some (fcsL (l.drop k)) := by
  show some (D.lst (cutL (l.map rD) (some (k : Int)) none)) = _
  rw [cut_from, ← List.map_drop]; rfl
theorem slc_pts_to (l : List Pt) (k : Nat) : slcD (ptsL l) none (some (k : Int)) = some (ptsL (l.take k)) := by
  show some (D.lst (cutL (l.map pD) none (some (k : Int)))) = _
  rw [cut_to, ← List.map_take]; rfl
theorem slc_pts_from (l : List Pt) (k : Nat) : slcD (ptsL l) (some (k : Int)) none = some (ptsL (l.drop k)) := by
  show some (D.lst (cutL (l.map pD) (some (k : Int)) none)) = _
  rw [cut_from, ← List.map_drop]; rfl
theorem slc_r_to (l : List Nat) (k : Nat) : slcD (rD l) none (some (k : Int)) = some (rD (l.take k)) := by
  show some (D.tup (cutL (l.map nD) none (some (k : Int)))) = _
  rw [cut_to, ← List.map_take]; rfl
theorem slc_r_from (l : List Nat) (k : Nat) : slcD (rD l) (some (k : Int)) none = some (rD (l.drop k)) := by
  show some (D.tup (cutL (l.map nD) (some (k : Int)) none)) = _
  rw [cut_from, ← List.map_drop]; rfl
theorem slc_r_mid (l : List Nat) : slcD (rD l) (some 1) (some (-1)) = some (rD ((l.drop 1).dropLast)) := by
  show some (D.tup (cutL (l.map nD) (some 1) (some (-1)))) = _
  rw [cut_mid, ← List.map_drop]
  show some (D.tup ((List.map nD (l.drop 1)).dropLast)) = some (D.tup (List.map nD (l.drop 1).dropLast))
  rw [List.map_dropLast]
theorem add_fcs {l m : List (List Nat)} (h : l.length + m.length ≤ 16777216) : binD .add (fcsL l) (fcsL m) = some (fcsL (l ++ m)) := by
  show (if (l.map rD).length + (m.map rD).length ≤ 16777216 then some (D.lst (l.map rD ++ m.map rD)) else none) = _
  rw [List.length_map, List.length_map, if_pos h, ← List.map_append]; rfl
theorem add_pts {l m : List Pt} (h : l.length + m.length ≤ 16777216) : binD .add (ptsL l) (ptsL m) = some (ptsL (l ++ m)) := by
  show (if (l.map pD).length + (m.map pD).length ≤ 16777216 then some (D.lst (l.map pD ++ m.map pD)) else none) = _
  rw [List.length_map, List.length_map, if_pos h, ← List.map_append]; rfl
theorem add_r {l m : List Nat} (h0 : l ≠ []) (h : l.length + m.length ≤ 16777216) : binD .add (rD l) (rD m) = some (rD (l ++ m)) := by
  show (if l.map nD ≠ [] ∧ (l.map nD).length + (m.map nD).length ≤ 16777216 then some (D.tup (l.map nD ++ m.map nD)) else none) = _
  rw [List.length_map, List.length_map, if_pos ⟨by simpa using h0, h⟩, ← List.map_append]; rfl
/-! ### comprehensions -/
section
variable {call : CallT} {refs : List Nat} {e : Env}
@[simp] theorem ec0 : evC call refs .none e = .ok true e := by simp only [evC]
@[simp] theorem ec1 (a : E) : evC call refs (.some a) e = (opnd (isVar a) (fun _ => evE call refs a e) e).bind fun x e => op1 x e fun x => asB x e := by simp only [evC]
@[simp] theorem clr0 : clr [] e = e := rfl
@[simp] theorem clr1 (i : Nat) (r : List Nat) : clr (i :: r) e = (clr r e).set i .emp := rfl
theorem compL_map {α : Type} {elt : Env → Res (Bool × D)} {cond : Env → Res Bool} {tp : Bool} {ts : List Nat} {xs : List α} {enc : α → D} {eb : Env} {f : α → Option D}
    (ht : ∀ x ∈ xs, ∃ e3, stoT refs tp ts (enc x) eb = .ok () e3 ∧ match f x with
      | some v => cond e3 = .ok true e3 ∧ ∃ fr e4, elt e3 = .ok (fr, v) e4 ∧ clr ts e4 = eb
      | none => cond e3 = .ok false e3 ∧ clr ts e3 = eb) : ∀ (k n : Nat) (e : Env), xs.length ≤ k + n → n ≤ xs.length → clr ts e = eb →
    ∃ e', compL elt cond (fun d e => stoT refs tp ts d (clr ts e)) (.st (xs.map enc)) k n e = .ok ((xs.drop n).filterMap f) e' ∧ clr ts e' = eb
  | 0, n, e, h1, h2, he => by
    refine ⟨e, ?_, he⟩
    have : (xs.map enc)[n]? = none := List.getElem?_eq_none (by rw [List.length_map]; omega)
    unfold compL Wk.look
    dsimp only
    rw [this, List.drop_of_length_le (by omega)]; rfl
  | k + 1, n, e, h1, h2, he => by
    by_cases hn : n < xs.length
    · have hg : (xs.map enc)[n]? = some (enc xs[n]) := by rw [List.getElem?_map, List.getElem?_eq_getElem hn]; rfl
      obtain ⟨e3, s1, s2⟩ := ht xs[n] (List.getElem_mem hn)
      rw [List.drop_eq_getElem_cons hn, List.filterMap_cons]
      unfold compL Wk.look
      dsimp only
      rw [hg]
      dsimp only
      rw [he, s1]
      dsimp only
      cases hf : f xs[n] with
      | none =>
        rw [hf] at s2
        obtain ⟨c1, c2⟩ := s2
        rw [c1]
        exact compL_map ht k (n + 1) e3 (by omega) hn c2
      | some v =>
        rw [hf] at s2
        obtain ⟨c1, fr, e4, c2, c3⟩ := s2
        rw [c1]
        dsimp only
        rw [c2]
        dsimp only
        obtain ⟨e', r1, r2⟩ := compL_map ht k (n + 1) e4 (by omega) hn c3
        rw [r1]
        exact ⟨e', rfl, r2⟩
    · refine ⟨e, ?_, he⟩
      have : (xs.map enc)[n]? = none := List.getElem?_eq_none (by rw [List.length_map]; omega)
      unfold compL Wk.look
      dsimp only
      rw [this, List.drop_of_length_le (by omega)]; rfl
theorem comp_map {α : Type} {elt : E} {tp : Bool} {ts : List Nat} {src : Src} {cond : Eo} {xs : List α} {enc : α → D} (f : α → Option D) (hs : evSrc call refs src e = .ok (.st (xs.map enc)) e) (hk : hideOk refs ts e = true) (hn : xs.length ≤ 16777216)
    (ht : ∀ x ∈ xs, ∃ e3, stoT refs tp ts (enc x) (clr ts e) = .ok () e3 ∧ match f x with
      | some v => evC call refs cond e3 = .ok true e3 ∧ ∃ fr e4, evE call refs elt e3 = .ok (fr, v) e4 ∧ clr ts e4 = clr ts e
      | none => evC call refs cond e3 = .ok false e3 ∧ clr ts e3 = clr ts e) :
    evE call refs (.comp elt tp ts src cond) e = .ok (true, .lst (xs.filterMap f)) e := by
  simp only [evE, hs, rb1]
  rw [if_pos ⟨hk, by show (xs.map enc).length ≤ _; rw [List.length_map]; exact hn⟩]
  obtain ⟨e', r1, r2⟩ := compL_map (cond := fun e => evC call refs cond e) (elt := fun e => evE call refs elt e) ht (Wk.fuel (.st (xs.map enc))) 0 e (by show _ ≤ (xs.map enc).length + 0; rw [List.length_map]; omega) (Nat.zero_le _) rfl
  show (match compL (fun e => evE call refs elt e) (fun e => evC call refs cond e) (fun d e => stoT refs tp ts d (clr ts e)) (.st (xs.map enc)) (Wk.fuel (.st (xs.map enc))) 0 e with | .ok l e2 => _ | _ => _) = _
  rw [r1]
  show Res.ok _ (Vm.back e ts e') = _
  rw [back_same r2]
  rfl
end
theorem comp_same {call : CallT} {refs : List Nat} {e : Env} {α : Type} {elt : E} {tp : Bool} {ts : List Nat} {src : Src} {cond : Eo} {xs : List α} {enc : α → D} (f : α → Option D) (hs : evSrc call refs src e = .ok (.st (xs.map enc)) e) (hk : hideOk refs ts e = true) (hn : xs.length ≤ 16777216)
    (ht : ∀ x ∈ xs, ∃ e3, stoT refs tp ts (enc x) (clr ts e) = .ok () e3 ∧ clr ts e3 = clr ts e ∧ match f x with
      | some v => evC call refs cond e3 = .ok true e3 ∧ ∃ fr, evE call refs elt e3 = .ok (fr, v) e3
      | none => evC call refs cond e3 = .ok false e3) :
    evE call refs (.comp elt tp ts src cond) e = .ok (true, .lst (xs.filterMap f)) e := comp_map f hs hk hn fun x hx => by
  obtain ⟨e3, h1, h2, h3⟩ := ht x hx
  refine ⟨e3, h1, ?_⟩
  cases hf : f x with
  | none => rw [hf] at h3; exact ⟨h3, h2⟩
  | some v =>
    rw [hf] at h3
    obtain ⟨h4, fr, h5⟩ := h3
    exact ⟨h4, fr, e3, h5, h2⟩
theorem filterMap_range {α : Type} (l : List α) (g : Nat → Option D) (h : α → D) (hg : ∀ (i : Nat) (hi : i < l.length), g i = some (h l[i])) : (List.range l.length).filterMap g = l.map h := by
  have e : (List.range l.length).filterMap g = (List.range l.length).filterMap fun i => (l[i]?).map h := by
    have : ∀ (r : List Nat), (∀ i ∈ r, i < l.length) → r.filterMap g = r.filterMap fun i => (l[i]?).map h := fun r => by
      induction r with
      | nil => intro _; rfl
      | cons i r ih =>
        intro hr
        have hi := hr i List.mem_cons_self
        rw [List.filterMap_cons, List.filterMap_cons, ih fun x hx => hr x (List.mem_cons_of_mem _ hx), hg i hi, List.getElem?_eq_getElem hi]; rfl
    exact this _ fun i hi => List.mem_range.mp hi
  rw [e]
  clear e hg
  induction l with
  | nil => rfl
  | cons a l ih =>
    rw [List.length_cons, List.range_succ_eq_map, List.filterMap_cons]
    show h a :: _ = _
    rw [List.filterMap_map, List.map_cons, ← ih]
    rfl
theorem idxs_range (n : Nat) : idxs 0 n = (List.range n).map nD := by unfold idxs; rw [List.range_eq_range']
/-! ### rings -/
theorem steps_length (f : List Nat) : (steps f).length = f.length := by
  have := congrArg List.length (steps_snd f)
  rwa [List.length_map] at this
theorem stepsFrom_get : ∀ (p : Nat) (l : List Nat) (j : Nat) (h : j < (stepsFrom p l).length), ((stepsFrom p l)[j]).1 = (p :: l)[j]?.getD 0
  | _, [], _, h => nomatch h
  | p, x :: l, 0, _ => rfl
  | p, x :: l, j + 1, h => by
    have h' : j < (stepsFrom x l).length := by simpa [stepsFrom] using h
    exact stepsFrom_get x l j h'
theorem step_at {f : List Nat} {j : Nat} (h : j < (steps f).length) : idxD (rD f) (.int ((j : Int) - 1)) = some (nD ((steps f)[j]).1) ∧ idxD (rD f) (.int (j : Int)) = some (nD ((steps f)[j]).2) := by
  have hf : j < f.length := by rwa [steps_length] at h
  constructor
  · show atI (f.map nD) ((j : Int) - 1) = _
    cases j with
    | zero =>
      show atI (f.map nD) (-1) = _
      rw [atI_last, List.getLast?_map]
      cases f with
      | nil => cases hf
      | cons x l =>
        have e : ((steps (x :: l))[0]'h).1 = l.getLastD x := by simp only [steps_cons]; rfl
        rw [e, List.getLast?_cons, ← List.getLastD_eq_getLast?]; rfl
    | succ j =>
      have e : (((j + 1 : Nat) : Int) - 1) = (j : Int) := by omega
      rw [e, atI_nat, List.getElem?_map]
      unfold steps at h ⊢
      rw [stepsFrom_get]
      show _ = some (nD (f[j]?.getD 0))
      rw [List.getElem?_eq_getElem (by omega)]; rfl
  · have e : ((steps f)[j]).2 = f[j] := by
      have := steps_snd f
      have h2 : ((steps f).map (·.2))[j]'(by rw [List.length_map]; exact h) = f[j] := by simp only [this]
      rw [← h2, List.getElem_map]
    rw [e]; exact ix_r hf
/-! ### _law_poked -/
section
variable {tab : Nat → Option Fn}
theorem r_poked [Has tab 50 f_law_poked] (k : Nat) {pts : List Pt} {fs : List (List Nat)} {at_ : Nat} {q : Pt} (ha : at_ < fs.length) (h1 : pts.length ≤ 4000) (h2 : fs.length ≤ 4000) (h3 : fs[at_].length ≤ 4000) :
    run tab (k + 1) 50 [.val (ptsL pts), .val (fcsL fs), .val (.int (at_ : Nat)), .val (pD q)] = .ret true (.lst [ptsL (pts ++ [q]), fcsL (fs.take at_ ++ tris fs[at_] pts.length ++ fs.drop (at_ + 1))]) [] := by
  rw [run_at (i := 50) inferInstance]
  have e1 : idxD (fcsL fs) (.int (at_ : Nat)) = some (rD fs[at_]) := (ix_fcs ha).1
  have hr := rng_len fs[at_].length (by omega)
  have hc := comp_same (call := run tab k) (refs := []) (e := [.val (ptsL pts), .val (fcsL fs), .val (.int (at_ : Nat)), .val (pD q), .val (rD fs[at_]), .emp, .emp]) (elt := e_law_poked_1) (tp := false) (ts := [6]) (src := .rng (.cons (.bi .len (.cons (.var 4) .nil)) .nil)) (cond := .none)
    (xs := List.range (steps fs[at_]).length) (enc := nD) (fun j => ((steps fs[at_])[j]?).map fun s => rD [s.1, s.2, pts.length]) (by simp [hr, idxs_range, steps_length]) rfl (by rw [List.length_range, steps_length]; omega) (fun j hj => by
      have hj := List.mem_range.mp hj
      obtain ⟨s1, s2⟩ := step_at hj
      refine ⟨_, rfl, rfl, ?_⟩
      rw [List.getElem?_eq_getElem hj]
      refine ⟨by simp, false, ?_⟩
      have q1 : D.tup [nD ((steps fs[at_])[j]).1, nD ((steps fs[at_])[j]).2, .int (pts.length : Nat)] = rD [((steps fs[at_])[j]).1, ((steps fs[at_])[j]).2, pts.length] := rfl
      have nj : nD j = .int (j : Int) := rfl
      simp [e_law_poked_1, nj, s1, s2, q1])
  rw [filterMap_range (steps fs[at_]) _ (fun s => rD [s.1, s.2, pts.length]) (fun i hi => by rw [List.getElem?_eq_getElem hi]; rfl)] at hc
  have e2 : D.lst ((steps fs[at_]).map fun s => rD [s.1, s.2, pts.length]) = fcsL (tris fs[at_] pts.length) := by unfold fcsL tris; rw [List.map_map]; rfl
  rw [e2] at hc
  have l1 : (tris fs[at_] pts.length).length = fs[at_].length := by unfold tris; rw [List.length_map, steps_length]
  have a1 : binD .add (ptsL pts) (.lst [pD q]) = some (ptsL (pts ++ [q])) := add_pts (m := [q]) (by simp; omega)
  have a2 := add_fcs (l := fs.take at_) (m := tris fs[at_] pts.length) (by rw [l1, List.length_take]; omega)
  have a3 := add_fcs (l := fs.take at_ ++ tris fs[at_] pts.length) (m := fs.drop (at_ + 1)) (by rw [List.length_append, l1, List.length_take, List.length_drop]; omega)
  have b1 := slc_fcs_to fs at_
  have b2 := slc_fcs_from fs (at_ + 1)
  have b3 : (((at_ + 1 : Nat)) : Int) = (at_ : Int) + 1 := by omega
  rw [b3] at b2
  simp [f_law_poked, e1, hc, a1, a2, a3, b1, b2]
end
end Vm

/-! ThG: dicts of steps, sorted things. -/
namespace Vm
open PySem L2 Geo
/-! ### dicts by steps -/
def p2 (s : Nat × Nat) : List Nat := [s.1, s.2]
def sD (s : Nat × Nat) : D := .tup [nD s.1, nD s.2]
theorem sD_r (s : Nat × Nat) : sD s = rD (p2 s) := rfl
@[simp] theorem isL_s (s : Nat × Nat) : isL (sD s) = false := rfl
@[simp] theorem fl_s (s : Nat × Nat) : flat (sD s) = true := rfl
@[simp] theorem ix_s0 (s : Nat × Nat) : idxD (sD s) (.int 0) = some (nD s.1) := by simp [sD]
@[simp] theorem ix_s1 (s : Nat × Nat) : idxD (sD s) (.int 1) = some (nD s.2) := by simp [sD]
theorem s_mk (u v : Nat) : D.tup [nD u, nD v] = sD (u, v) := rfl
def kS (s : Nat × Nat) : List Key := [.inl s.1, .inl s.2]
theorem kS_inj {s t : Nat × Nat} : kS s = kS t ↔ s = t := by
  unfold kS
  constructor
  · intro h
    simp at h
    exact Prod.ext (by omega) (by omega)
  · rintro rfl; rfl
theorem key_s (s : Nat × Nat) : keyOf (sD s) = some (.inr (kS s)) := rfl
def stD (m : List ((Nat × Nat) × D)) : D := .dt (m.map fun kv => (kS kv.1, kv.2))
def lk {α β : Type} [DecidableEq α] (m : List (α × β)) (s : α) : Option β := (m.find? fun kv => decide (kv.1 = s)).map (·.2)
theorem lk_none {α β : Type} [DecidableEq α] {m : List (α × β)} {s : α} : lk m s = none ↔ s ∉ m.map (·.1) := by
  unfold lk
  rw [Option.map_eq_none_iff, List.find?_eq_none]
  simp only [decide_eq_true_eq, List.mem_map, not_exists, not_and]
theorem lk_some {α β : Type} [DecidableEq α] {m : List (α × β)} {s : α} {v : β} (h : lk m s = some v) : (s, v) ∈ m := by
  unfold lk at h
  obtain ⟨kv, h1, h2⟩ := Option.map_eq_some_iff.mp h
  have h3 := of_decide_eq_true (List.find?_some (p := fun kv : α × β => decide (kv.1 = s)) h1)
  have := List.mem_of_find?_eq_some h1
  rw [← h3, ← h2]; exact this
theorem lk_of {α β : Type} [DecidableEq α] {m : List (α × β)} (hn : (m.map (·.1)).Nodup) {s : α} {v : β} (h : (s, v) ∈ m) : lk m s = some v := by
  cases e : lk m s with
  | none => exact absurd (List.mem_map.mpr ⟨_, h, rfl⟩) (lk_none.mp e)
  | some w =>
    have := lk_some e
    have := inj_of_nodup_map hn this h rfl
    have e2 : w = v := congrArg Prod.snd this
    rw [e2]
theorem lk_isSome {α β : Type} [DecidableEq α] {m : List (α × β)} {s : α} : (lk m s).isSome = decide (s ∈ m.map (·.1)) := by
  rw [Bool.eq_iff_iff, Option.isSome_iff_ne_none, decide_eq_true_eq, ne_eq, lk_none, Decidable.not_not]
theorem look_st (m : List ((Nat × Nat) × D)) (s : Nat × Nat) : look (m.map fun kv => (kS kv.1, kv.2)) (kS s) = lk m s := by
  unfold look lk
  rw [List.find?_map, Option.map_map]
  have : ((fun kv : List Key × D => decide (kv.1 = kS s)) ∘ fun kv : (Nat × Nat) × D => (kS kv.1, kv.2)) = fun kv => decide (kv.1 = s) := funext fun kv => by
    show decide (kS kv.1 = kS s) = _
    rw [Bool.eq_iff_iff, decide_eq_true_eq, decide_eq_true_eq, kS_inj]
  rw [this]; rfl
theorem dget_st (m : List ((Nat × Nat) × D)) (s : Nat × Nat) : dget (stD m) (sD s) = some (lk m s) := by
  show some (look _ (kS s)) = _
  rw [look_st]
theorem in_st (m : List ((Nat × Nat) × D)) (s : Nat × Nat) : inD (sD s) (stD m) = some (decide (s ∈ m.map (·.1))) := by
  show (dget (stD m) (sD s)).map Option.isSome = _
  rw [dget_st, Option.map_some, lk_isSome]
  exact congrArg some (decide_eq_decide.mpr Iff.rfl)
theorem ix_st (m : List ((Nat × Nat) × D)) (s : Nat × Nat) : idxD (stD m) (sD s) = lk m s := by
  show (dget (stD m) (sD s)).bind id = _
  rw [dget_st]; rfl
theorem put_st {m : List ((Nat × Nat) × D)} {s : Nat × Nat} {v : D} (h : s ∉ m.map (·.1)) (hl : m.length < 4096) : setD (stD m) (sD s) v = some (stD (m ++ [(s, v)])) := by
  show (if (m.map fun kv => (kS kv.1, kv.2)).length < 4096 then some (D.dt (put _ (kS s) v)) else none) = _
  rw [List.length_map, if_pos hl]
  unfold put
  rw [look_st, lk_none.mpr h]
  show some (D.dt (_ ++ [(kS s, v)])) = _
  unfold stD
  rw [List.map_append]; rfl
theorem list_st (m : List ((Nat × Nat) × D)) : biD .list [stD m] = some (.lst ((m.map (·.1)).map sD)) := by
  show (if ((m.map fun kv => (kS kv.1, kv.2)).all fun kv => decide (kv.1.length ≤ 2)) = true then some (D.lst ((m.map fun kv => (kS kv.1, kv.2)).map fun kv => .tup (kv.1.map keyD))) else none) = _
  rw [if_pos (by rw [List.all_eq_true]; intro x hx; obtain ⟨y, _, rfl⟩ := List.mem_map.mp hx; rfl), List.map_map, List.map_map]
  rfl
/-! ### dicts by numbers -/
def ndD (m : List (Nat × D)) : D := .dk (m.map fun kv => (.inl kv.1, kv.2))
theorem key_n (n : Nat) : keyOf (nD n) = some (.inl (.inl n)) := rfl
theorem look_nd (m : List (Nat × D)) (s : Nat) : look (m.map fun kv => ((.inl (kv.1 : Int) : Key), kv.2)) (.inl (s : Int)) = lk m s := by
  unfold look lk
  rw [List.find?_map, Option.map_map]
  have : ((fun kv : Key × D => decide (kv.1 = (.inl (s : Int) : Key))) ∘ fun kv : Nat × D => ((.inl (kv.1 : Int) : Key), kv.2)) = fun kv => decide (kv.1 = s) := funext fun kv => by
    show decide ((.inl (kv.1 : Int) : Key) = .inl (s : Int)) = _
    rw [Bool.eq_iff_iff, decide_eq_true_eq, decide_eq_true_eq]
    exact ⟨fun h => by have := Sum.inl.inj h; omega, fun h => by rw [h]⟩
  rw [this]; rfl
theorem dget_nd (m : List (Nat × D)) (s : Nat) : dget (ndD m) (nD s) = some (lk m s) := by
  show some (look _ _) = _
  rw [look_nd]
theorem in_nd (m : List (Nat × D)) (s : Nat) : inD (nD s) (ndD m) = some (decide (s ∈ m.map (·.1))) := by
  show (dget (ndD m) (nD s)).map Option.isSome = _
  rw [dget_nd, Option.map_some, lk_isSome]
theorem ix_nd (m : List (Nat × D)) (s : Nat) : idxD (ndD m) (nD s) = lk m s := by
  show (dget (ndD m) (nD s)).bind id = _
  rw [dget_nd]; rfl
theorem put_nd {m : List (Nat × D)} {s : Nat} {v : D} (h : s ∉ m.map (·.1)) (hl : m.length < 4096) : setD (ndD m) (nD s) v = some (ndD (m ++ [(s, v)])) := by
  show (if (m.map fun kv => ((.inl (kv.1 : Int) : Key), kv.2)).length < 4096 then some (D.dk (put _ (.inl (s : Int)) v)) else none) = _
  rw [List.length_map, if_pos hl]
  unfold put
  rw [look_nd, lk_none.mpr h]
  show some (D.dk (_ ++ [(.inl (s : Int), v)])) = _
  unfold ndD
  rw [List.map_append]; rfl
theorem list_nd (m : List (Nat × D)) : biD .list [ndD m] = some (.lst ((m.map (·.1)).map nD)) := by
  show some (D.lst ((m.map fun kv => ((.inl (kv.1 : Int) : Key), kv.2)).map fun kv => keyD kv.1)) = _
  rw [List.map_map, List.map_map]; rfl
theorem len_nd (m : List (Nat × D)) : biD .len [ndD m] = some (.int (m.length : Nat)) := by
  show some (D.int ((m.map _).length : Nat)) = _
  rw [List.length_map]
/-! ### sorted -/
def cI (f : List Nat) : List Int := List.map (α := Nat) (β := Int) (fun n => (n : Int)) f
def leR (a b : List Nat) : Bool := lexLe (cI a) (cI b)
def sortR (fs : List (List Nat)) : List (List Nat) := fs.mergeSort leR
def sortS (l : List (Nat × Nat)) : List (Nat × Nat) := l.mergeSort fun a b => leR (p2 a) (p2 b)
theorem tupD_r (f : List Nat) : tupD (cI f) = rD f := by unfold tupD cI rD; rw [List.map_map]; rfl
theorem ints_r (f : List Nat) : asInts (f.map nD) = some (cI f) := by
  induction f with
  | nil => rfl
  | cons a r ih => rw [List.map_cons]; show (asInts (r.map nD)).map _ = _; rw [ih]; rfl
theorem tups_r : ∀ {fs : List (List Nat)}, (∀ f ∈ fs, f ≠ []) → asTups (fs.map rD) = some (fs.map cI)
  | [], _ => rfl
  | f :: fs, h => by
    rw [List.map_cons]
    show (asInts (f.map nD)).bind (fun ns => if ns = [] then none else (asTups (fs.map rD)).map (ns :: ·)) = _
    rw [ints_r, Option.bind_some, if_neg (by
      intro z
      have := h f List.mem_cons_self
      unfold cI at z
      exact this (List.map_eq_nil_iff.mp z)), tups_r fun x hx => h x (List.mem_cons_of_mem _ hx)]
    rfl
theorem sort_fcs {fs : List (List Nat)} (h : ∀ f ∈ fs, f ≠ []) : biD .sorted [fcsL fs] = some (fcsL (sortR fs)) := by
  show biSort [.lst (fs.map rD)] = _
  unfold biSort
  dsimp only
  cases fs with
  | nil => simp [asInts, fcsL, sortR]
  | cons f fs =>
    have e : asInts ((f :: fs).map rD) = none := rfl
    rw [e]
    dsimp only
    rw [tups_r h, Option.map_some]
    have : ((f :: fs).map cI).mergeSort lexLe = (sortR (f :: fs)).map cI := (List.map_mergeSort (r := leR) (s := lexLe) (f := cI) (l := f :: fs) fun _ _ _ _ => rfl).symm
    rw [this, List.map_map]
    unfold fcsL
    congr 2
    exact List.map_congr_left fun a _ => tupD_r a
theorem sort_steps (l : List (Nat × Nat)) : biD .sorted [.lst (l.map sD)] = some (.lst ((sortS l).map sD)) := by
  have := sort_fcs (fs := l.map p2) (fun f hf => by obtain ⟨s, _, rfl⟩ := List.mem_map.mp hf; exact List.cons_ne_nil _ _)
  have e1 : fcsL (l.map p2) = .lst (l.map sD) := by unfold fcsL; rw [List.map_map]; rfl
  have e2 : sortR (l.map p2) = (sortS l).map p2 := (List.map_mergeSort (r := fun a b => leR (p2 a) (p2 b)) (s := leR) (f := p2) (l := l) fun _ _ _ _ => rfl).symm
  rw [e1, e2] at this
  rw [this]
  unfold fcsL
  rw [List.map_map]; rfl
theorem sortR_perm (fs : List (List Nat)) : (sortR fs).Perm fs := List.mergeSort_perm fs _
theorem sortS_perm (l : List (Nat × Nat)) : (sortS l).Perm l := List.mergeSort_perm l _
theorem cI_inj {a b : List Nat} (h : cI a = cI b) : a = b := by
  unfold cI at h
  induction a generalizing b with
  | nil => cases b with
    | nil => rfl
    | cons _ _ => cases h
  | cons x a ih => cases b with
    | nil => cases h
    | cons y b =>
      rw [List.map_cons, List.map_cons] at h
      obtain ⟨h1, h2⟩ := List.cons.inj h
      rw [ih h2, show x = y by omega]
theorem leR_total (a b : List Nat) : (leR a b || leR b a) = true := lexLe_total _ _
theorem leR_trans {a b c : List Nat} (h1 : leR a b = true) (h2 : leR b c = true) : leR a c = true := lexLe_trans h1 h2
theorem leR_anti {a b : List Nat} (h1 : leR a b = true) (h2 : leR b a = true) : a = b := by
  unfold leR lexLe at h1 h2
  simp only [Bool.not_eq_true'] at h1 h2
  exact cI_inj (lexB_eq h2 h1)
/-- one sorted list -/
theorem sorted_uniq {α : Type} {le : α → α → Bool} (anti : ∀ a b, le a b = true → le b a = true → a = b) (refl : ∀ a, le a a = true) : ∀ {a b : List α}, a.Perm b → a.Pairwise (fun x y => le x y = true) → b.Pairwise (fun x y => le x y = true) → a = b
  | [], b, h, _, _ => h.nil_eq
  | x :: r, b, h, ha, hb => by
    cases b with
    | nil => exact absurd h.length_eq (by simp)
    | cons y s =>
      have ha' := List.pairwise_cons.mp ha
      have hb' := List.pairwise_cons.mp hb
      have hx : x ∈ y :: s := h.subset List.mem_cons_self
      have hy : y ∈ x :: r := h.symm.subset List.mem_cons_self
      have h1 : le x y = true := by
        rcases List.mem_cons.mp hy with z | z
        · rw [z]; exact refl x
        · exact ha'.1 y z
      have h2 : le y x = true := by
        rcases List.mem_cons.mp hx with z | z
        · rw [z]; exact refl y
        · exact hb'.1 x z
      have e : x = y := anti _ _ h1 h2
      subst e
      rw [sorted_uniq anti refl ((List.perm_cons x).mp h) ha'.2 hb'.2]
theorem leR_refl (a : List Nat) : leR a a = true := by have := leR_total a a; simpa using this
theorem sortS_sorted (l : List (Nat × Nat)) : (sortS l).Pairwise (fun a b => leR (p2 a) (p2 b) = true) := List.pairwise_mergeSort (le := fun a b => leR (p2 a) (p2 b)) (fun a b c h1 h2 => leR_trans h1 h2) (fun a b => leR_total _ _) l
theorem sortR_sorted (l : List (List Nat)) : (sortR l).Pairwise (fun a b => leR a b = true) := List.pairwise_mergeSort (le := leR) (fun a b c h1 h2 => leR_trans h1 h2) leR_total l
theorem sortS_uniq {a b : List (Nat × Nat)} (h : a.Perm b) (ha : a.Pairwise (fun a b => leR (p2 a) (p2 b) = true)) (hb : b.Pairwise (fun a b => leR (p2 a) (p2 b) = true)) : a = b :=
  sorted_uniq (le := fun a b => leR (p2 a) (p2 b)) (fun x y h1 h2 => by have := leR_anti h1 h2; unfold p2 at this; simp at this; exact Prod.ext this.1 this.2) (fun x => leR_refl _) h ha hb
/-- sorted, then picked; picked, then sorted -/
theorem sortS_filter (l : List (Nat × Nat)) (p : Nat × Nat → Bool) : (sortS l).filter p = sortS (l.filter p) :=
  sortS_uniq (((sortS_perm l).filter p).trans (sortS_perm _).symm) ((sortS_sorted l).sublist List.filter_sublist) (sortS_sorted _)
/-! ### which face has a step -/
def sidx : Nat → List (List Nat) → List ((Nat × Nat) × Nat)
  | _, [] => []
  | k, f :: fs => (steps f).map (fun s => (s, k)) ++ sidx (k + 1) fs
theorem sidx_fst : ∀ (k : Nat) (fs : List (List Nat)), (sidx k fs).map (·.1) = allSteps fs
  | _, [] => rfl
  | k, f :: fs => by
    show ((steps f).map (fun s => (s, k)) ++ sidx (k + 1) fs).map (·.1) = _
    rw [List.map_append, List.map_map, sidx_fst (k + 1) fs, allSteps_cons]
    congr 1
    exact List.map_id _
theorem sidx_append : ∀ (k : Nat) (a b : List (List Nat)), sidx k (a ++ b) = sidx k a ++ sidx (k + a.length) b
  | k, [], b => by simp [sidx]
  | k, f :: a, b => by
    show (steps f).map (fun s => (s, k)) ++ sidx (k + 1) (a ++ b) = ((steps f).map (fun s => (s, k)) ++ sidx (k + 1) a) ++ sidx (k + (a.length + 1)) b
    rw [sidx_append, List.append_assoc]
    congr 3
    omega
theorem sidx_mem : ∀ {k : Nat} {fs : List (List Nat)} {s : Nat × Nat} {i : Nat}, (s, i) ∈ sidx k fs ↔ ∃ j f, i = k + j ∧ fs[j]? = some f ∧ s ∈ steps f
  | k, [], s, i => by simp [sidx]
  | k, f :: fs, s, i => by
    show (s, i) ∈ (steps f).map (fun s => (s, k)) ++ sidx (k + 1) fs ↔ _
    rw [List.mem_append, sidx_mem]
    constructor
    · rintro (h | ⟨j, g, h1, h2, h3⟩)
      · obtain ⟨t, ht, e⟩ := List.mem_map.mp h
        cases e
        exact ⟨0, f, rfl, rfl, ht⟩
      · exact ⟨j + 1, g, by omega, by simpa using h2, h3⟩
    · rintro ⟨j, g, h1, h2, h3⟩
      cases j with
      | zero =>
        left
        have : f = g := by simpa using h2
        subst this
        exact List.mem_map.mpr ⟨s, h3, by rw [h1]; rfl⟩
      | succ j => exact .inr ⟨j, g, by omega, by simpa using h2, h3⟩
end Vm

/-! ThH: the defs about rings and steps. -/
namespace Vm
open PySem L2 Geo
section
variable {tab : Nat → Option Fn}
/-! ### least numbers -/
def minN (l : List Nat) : Nat := l.min?.getD 0
theorem minN_mem {l : List Nat} (h : l ≠ []) : minN l ∈ l ∧ ∀ x ∈ l, minN l ≤ x := by
  unfold minN
  cases e : l.min? with
  | none => exact absurd (List.min?_eq_none_iff.mp e) h
  | some a => exact List.min?_eq_some_iff.mp e
theorem minL_nat {l : List Nat} (h : l ≠ []) : ∃ a r, cI l = a :: r ∧ minL a r = (minN l : Nat) := by
  obtain ⟨x, m, rfl⟩ := List.exists_cons_of_ne_nil h
  refine ⟨(x : Int), cI m, rfl, ?_⟩
  obtain ⟨h1, h2⟩ := minN_mem h
  refine (minL_only (m := ((minN (x :: m) : Nat) : Int)) (List.mem_map (f := fun (n : Nat) => (n : Int)).mpr ⟨_, h1, rfl⟩) fun y hy => ?_).symm
  have hy' : y ∈ (x :: m).map (fun (n : Nat) => (n : Int)) := hy
  obtain ⟨z, hz, rfl⟩ := List.mem_map.mp hy'
  have := h2 z hz
  omega
theorem min_lst {l : List Nat} (h : l ≠ []) : biD .min [.lst (l.map nD)] = some (nD (minN l)) := by
  obtain ⟨a, r, e1, e2⟩ := minL_nat h
  show (asInts (l.map nD)).bind _ = _
  rw [ints_r, e1]
  show some (D.int (minL a r)) = _
  rw [e2]; rfl
theorem min_r {l : List Nat} (h : l ≠ []) : biD .min [rD l] = some (nD (minN l)) := by
  obtain ⟨a, r, e1, e2⟩ := minL_nat h
  show (asInts (l.map nD)).bind _ = _
  rw [ints_r, e1]
  show some (D.int (minL a r)) = _
  rw [e2]; rfl
/-! ### turned on -/
def rotAt (l : List Nat) (x : Nat) : List Nat := l.drop (l.idxOf x) ++ l.take (l.idxOf x)
theorem rotAt_rot (l : List Nat) (x : Nat) : Rot l (rotAt l x) := ⟨l.take (l.idxOf x), l.drop (l.idxOf x), (List.take_append_drop _ _).symm, rfl⟩
theorem rotAt_len (l : List Nat) (x : Nat) : (rotAt l x).length = l.length := by unfold rotAt; rw [List.length_append, List.length_drop, List.length_take]; omega
theorem rotAt_head {l : List Nat} {x : Nat} (h : x ∈ l) : ∃ r, rotAt l x = x :: r := by
  have hi := List.idxOf_lt_length_of_mem h
  refine ⟨l.drop (l.idxOf x + 1) ++ l.take (l.idxOf x), ?_⟩
  unfold rotAt
  rw [List.drop_eq_getElem_cons hi, List.cons_append, List.getElem_idxOf hi]
/-- just one turning begins with a number of it -/
theorem rot_uniq {a b : List Nat} {x : Nat} {r : List Nat} (hn : (a ++ b).Nodup) (h : b ++ a = x :: r) : rotAt (a ++ b) x = x :: r := by
  cases b with
  | nil =>
    rw [List.nil_append] at h
    subst h
    unfold rotAt
    rw [List.append_nil, List.idxOf_cons_self]; simp
  | cons y b =>
    rw [List.cons_append] at h
    obtain ⟨rfl, rfl⟩ := List.cons.inj h
    have hx : y ∉ a := fun m => (List.nodup_append.mp hn).2.2 y m y List.mem_cons_self rfl
    unfold rotAt
    rw [List.idxOf_append, if_neg hx, List.idxOf_cons_self, Nat.zero_add]
    simp
theorem rotAt_step {l : List Nat} (hn : l.Nodup) (hl : 2 ≤ l.length) {u v : Nat} (h : (u, v) ∈ steps l) : ∃ r, rotAt l v = v :: r ++ [u] := by
  obtain ⟨a, b, r, rfl, e⟩ := steps_split hl h
  have e2 : (a ++ b) = (a ++ b) := rfl
  -- turn once more
  cases b with
  | nil =>
    rw [List.nil_append] at e
    subst e
    refine ⟨r, ?_⟩
    rw [List.append_nil] at hn ⊢
    have := rot_uniq (a := [u]) (b := v :: r) (x := v) (r := r ++ [u]) hn rfl
    rw [List.singleton_append] at this
    rw [this]; rfl
  | cons y b =>
    rw [List.cons_append] at e
    obtain ⟨e0, e4⟩ := List.cons.inj e
    subst e0
    refine ⟨r, ?_⟩
    have h3 : (a ++ y :: b) = (a ++ [y]) ++ b := by simp
    rw [h3] at hn ⊢
    refine rot_uniq hn ?_
    rw [← List.append_assoc, e4]
    rfl
def fromLeast (l : List Nat) : List Nat := rotAt l (minN l)
theorem idx_of {l : List Nat} {x : Nat} (h : x ∈ l) (hl : 2 < l.length) : indexD (rD l) (nD x) = some (nD (l.idxOf x)) := by
  show (asInts (l.map nD)).bind (fun ns => (ns.findIdx? (· == (x : Int))).map fun j => D.int (j : Nat)) = _
  rw [ints_r, Option.bind_some]
  have e : (cI l).findIdx? (· == (x : Int)) = some (l.idxOf x) := by
    unfold cI
    rw [List.findIdx?_map]
    have : ((fun y : Int => y == (x : Int)) ∘ fun (n : Nat) => (n : Int)) = fun n => n == x := funext fun n => by
      show ((n : Int) == (x : Int)) = (n == x)
      rw [Bool.eq_iff_iff]; simp; omega
    rw [this]
    exact List.findIdx?_eq_some_of_exists ⟨x, h, by simp⟩
  rw [e]; rfl
/-! ### no bay -/
@[simp] theorem eq_n (a b : Nat) : eqD (nD a) (nD b) = some (decide (a = b)) := eq_cod (enc := nD) a b
@[simp] theorem eq_q (a b : Rat) : eqD (qD a) (qD b) = some (decide (a = b)) := eq_cod (enc := qD) a b
@[simp] theorem eq_p (a b : Pt) : eqD (pD a) (pD b) = some (decide (a = b)) := eq_cod (enc := pD) a b
theorem era_len : ∀ (n : Nat) (l : List Int), l.length = n → l.eraseDups.length ≤ l.length ∧ (l.eraseDups.length = l.length ↔ l.Nodup) := by
  intro n
  induction n using Nat.strongRecOn with
  | ind n ih =>
    intro l hl
    cases l with
    | nil => exact ⟨Nat.le_refl _, by simp⟩
    | cons a r =>
      rw [List.eraseDups_cons, List.length_cons, List.length_cons, List.nodup_cons]
      have hf : (r.filter fun b => !b == a).length ≤ r.length := List.length_filter_le ..
      obtain ⟨h1, h2⟩ := ih _ (by rw [← hl, List.length_cons]; omega) (r.filter fun b => !b == a) rfl
      refine ⟨by omega, ?_⟩
      constructor
      · intro e
        have e1 : (r.filter fun b => !b == a).length = r.length := by omega
        have e2 := List.length_filter_eq_length_iff.mp e1
        have e3 : r.filter (fun b => !b == a) = r := List.filter_eq_self.mpr e2
        rw [e3] at h2
        refine ⟨fun m => by have := e2 a m; simp at this, h2.mp (by rw [e3] at h1 e; omega)⟩
      · rintro ⟨h3, h4⟩
        have e3 : r.filter (fun b => !b == a) = r := List.filter_eq_self.mpr fun x hx => by
          have : x ≠ a := fun e => h3 (e ▸ hx)
          simp [this]
        rw [e3] at h2 ⊢
        have := h2.mpr h4
        omega
theorem cI_nodup {l : List Nat} : (cI l).Nodup ↔ l.Nodup := by
  unfold cI List.Nodup
  rw [List.pairwise_map]
  exact ⟨fun h => h.imp fun a => by omega, fun h => h.imp fun a => by omega⟩
theorem lset_r {l : List Nat} (h : l.length ≤ 4000) : ∃ n : Nat, lsetD (rD l) = some (.int (n : Nat)) ∧ (n = l.length ↔ l.Nodup) := by
  refine ⟨(cI l).eraseDups.length, ?_, ?_⟩
  · show (asInts (l.map nD)).bind _ = _
    rw [ints_r, Option.bind_some, if_pos (by unfold cI; rw [List.length_map]; exact h)]
  · have := (era_len _ (cI l) rfl).2
    rw [cI_nodup] at this
    have e : (cI l).length = l.length := by unfold cI; rw [List.length_map]
    rw [e] at this
    exact this
def bayN (P : Nat → Pt) (u v n : Nat) : Bool := decide (n = u) || decide (n = v) || decide (0 < ori (P u) (P v) (P n))
def bayIn (P : Nat → Pt) (ring : List Nat) (s : Nat × Nat) : Bool := ring.all (bayN P s.1 s.2)
def bayB (P : Nat → Pt) (ring : List Nat) : Bool := decide (3 ≤ ring.length) && decide ring.Nodup && (steps ring).all (bayIn P ring)
theorem bayB_iff {P : Nat → Pt} {ring : List Nat} : bayB P ring = true ↔ Bay P ring := by
  unfold bayB bayIn bayN
  simp only [Bool.and_eq_true, decide_eq_true_eq, List.all_eq_true, Bool.or_eq_true]
  constructor
  · rintro ⟨⟨h1, h2⟩, h3⟩
    refine ⟨h1, h2, fun u v hs n hn a b => ?_⟩
    rcases h3 (u, v) hs n hn with (h | h) | h
    · exact absurd h a
    · exact absurd h b
    · exact h
  · rintro ⟨h1, h2, h3⟩
    refine ⟨⟨h1, h2⟩, fun s hs n hn => ?_⟩
    by_cases a : n = s.1
    · exact .inl (.inl a)
    · by_cases b : n = s.2
      · exact .inl (.inr b)
      · exact .inr (h3 s.1 s.2 hs n hn a b)
/-- points as data, by numbers below n -/
structure PtD (pd : D) (P : Nat → Pt) (n : Nat) : Prop where
  ix : ∀ c, c < n → idxD pd (nD c) = some (pD (P c))
  sp : ∀ c, c < n → Sp 490 (P c)
theorem bay_in [Has tab 39 f_law_common] [Has tab 40 f_law_low] [Has tab 43 f_law_times] [Has tab 46 f_law_less] [Has tab 47 f_law_step] [Has tab 54 f_law_cross] [Has tab 55 f_law_hand] (k : Nat) {P : Nat → Pt} {pd : D} {n : Nat} (hp : PtD pd P n) {ring : List Nat} {j : Int} {u v : Nat} (hu : u < n) (hv : v < n)
    (h1 : idxD (rD ring) (.int (j - 1)) = some (nD u)) (h2 : idxD (rD ring) (.int j) = some (nD v)) : ∀ (ns : List Nat) (s5 : Slot), (∀ c ∈ ns, c < n) →
    ∃ s5', forS (run tab (k + 5)) [] false [5] b_law_bayless_2 (ns.map nD) [.val pd, .val (rD ring), .val (.int j), .val (pD (P u)), .val (pD (P v)), s5] =
      if ns.all (bayN P u v) = true then .next [.val pd, .val (rD ring), .val (.int j), .val (pD (P u)), .val (pD (P v)), s5'] else .ret false (.bl false) [.val pd, .val (rD ring), .val (.int j), .val (pD (P u)), .val (pD (P v)), s5']
  | [], s5, _ => ⟨s5, rfl⟩
  | c :: ns, s5, hn => by
    obtain ⟨s5', ih⟩ := bay_in k hp hu hv h1 h2 ns (.val (nD c)) (fun x hx => hn x (List.mem_cons_of_mem _ hx))
    have hc := hn c List.mem_cons_self
    have hh := r_lhand (tab := tab) (hp.sp u hu) (hp.sp v hv) (hp.sp c hc) k
    have hi := hp.ix c hc
    have step : forS (run tab (k + 5)) [] false [5] b_law_bayless_2 ((c :: ns).map nD) [.val pd, .val (rD ring), .val (.int j), .val (pD (P u)), .val (pD (P v)), s5] =
        if bayN P u v c = true then forS (run tab (k + 5)) [] false [5] b_law_bayless_2 (ns.map nD) [.val pd, .val (rD ring), .val (.int j), .val (pD (P u)), .val (pD (P v)), .val (nD c)] else .ret false (.bl false) [.val pd, .val (rD ring), .val (.int j), .val (pD (P u)), .val (pD (P v)), .val (nD c)] := by
      rw [List.map_cons, forS_cons]
      unfold bayN
      by_cases a : c = u
      · simp [b_law_bayless_2, h1, a]
      · by_cases b : c = v
        · have a' : ¬ v = u := fun e => a (b.trans e)
          simp [b_law_bayless_2, h1, h2, b, a']
        · by_cases d : 0 < ori (P u) (P v) (P c)
          · have d' := sgn_one.mpr d
            simp [b_law_bayless_2, h1, h2, a, b, hi, hh, d, d']
          · have d' : ¬ sgn (ori (P u) (P v) (P c)) = 1 := fun z => d (sgn_one.mp z)
            simp [b_law_bayless_2, h1, h2, a, b, hi, hh, d, d']
    rw [step]
    by_cases hb : bayN P u v c = true
    · refine ⟨s5', ?_⟩
      rw [if_pos hb, ih, List.all_cons, hb, Bool.true_and]
    · refine ⟨.val (nD c), ?_⟩
      rw [if_neg hb, List.all_cons, Bool.eq_false_iff.mpr hb, Bool.false_and, if_neg Bool.false_ne_true]
theorem drop_get {α : Type} {l r : List α} {k : Nat} {a : α} (h : l.drop k = a :: r) : ∃ hk : k < l.length, l[k] = a ∧ l.drop (k + 1) = r := by
  have hk : k < l.length := by
    rcases Nat.lt_or_ge k l.length with z | z
    · exact z
    · rw [List.drop_of_length_le z] at h; cases h
  rw [List.drop_eq_getElem_cons hk] at h
  obtain ⟨h1, h2⟩ := List.cons.inj h
  exact ⟨hk, h1, h2⟩
theorem bay_out [Has tab 39 f_law_common] [Has tab 40 f_law_low] [Has tab 43 f_law_times] [Has tab 46 f_law_less] [Has tab 47 f_law_step] [Has tab 54 f_law_cross] [Has tab 55 f_law_hand] (k : Nat) {P : Nat → Pt} {pd : D} {n : Nat} (hp : PtD pd P n) {ring : List Nat} (hr : ∀ c ∈ ring, c < n) : ∀ (rest : List (Nat × Nat)) (k0 : Nat) (s2 s3 s4 s5 : Slot), (steps ring).drop k0 = rest →
    ∃ s2' s3' s4' s5', forS (run tab (k + 5)) [] false [2] b_law_bayless_1 (idxs k0 rest.length) [.val pd, .val (rD ring), s2, s3, s4, s5] =
      if rest.all (bayIn P ring) = true then .next [.val pd, .val (rD ring), s2', s3', s4', s5'] else .ret false (.bl false) [.val pd, .val (rD ring), s2', s3', s4', s5']
  | [], k0, s2, s3, s4, s5, _ => ⟨s2, s3, s4, s5, rfl⟩
  | s :: rest, k0, s2, s3, s4, s5, hd => by
    obtain ⟨hk, e1, e2⟩ := drop_get hd
    obtain ⟨g1, g2⟩ := step_at hk
    rw [e1] at g1 g2
    have hm : (s.1, s.2) ∈ steps ring := by rw [← e1]; exact List.getElem_mem hk
    have hs := steps_mem hm
    have hu := hr _ hs.1
    have hv := hr _ hs.2
    obtain ⟨s5', hin⟩ := bay_in (tab := tab) k hp hu hv g1 g2 ring s5 hr
    obtain ⟨t2, t3, t4, t5, ih⟩ := bay_out k hp hr rest (k0 + 1) (.val (nD k0)) (.val (pD (P s.1))) (.val (pD (P s.2))) s5' e2
    have step : forS (run tab (k + 5)) [] false [2] b_law_bayless_1 (idxs k0 (s :: rest).length) [.val pd, .val (rD ring), s2, s3, s4, s5] =
        if bayIn P ring s = true then forS (run tab (k + 5)) [] false [2] b_law_bayless_1 (idxs (k0 + 1) rest.length) [.val pd, .val (rD ring), .val (nD k0), .val (pD (P s.1)), .val (pD (P s.2)), s5'] else .ret false (.bl false) [.val pd, .val (rD ring), .val (nD k0), .val (pD (P s.1)), .val (pD (P s.2)), s5'] := by
      rw [List.length_cons, idxs_succ, forS_cons]
      have nk : nD k0 = .int (k0 : Int) := rfl
      have i1 := hp.ix _ hu
      have i2 := hp.ix _ hv
      unfold bayIn
      rw [nk]
      by_cases b : ring.all (bayN P s.1 s.2) = true
      · rw [if_pos b] at hin ⊢
        simp [b_law_bayless_1, g1, g2, i1, i2, hin]
      · rw [if_neg b] at hin ⊢
        simp [b_law_bayless_1, g1, g2, i1, i2, hin]
    rw [step]
    by_cases hb : bayIn P ring s = true
    · refine ⟨t2, t3, t4, t5, ?_⟩
      rw [if_pos hb, ih, List.all_cons, hb, Bool.true_and]
    · refine ⟨.val (nD k0), .val (pD (P s.1)), .val (pD (P s.2)), s5', ?_⟩
      rw [if_neg hb, List.all_cons, Bool.eq_false_iff.mpr hb, Bool.false_and, if_neg Bool.false_ne_true]
theorem r_bayless [Has tab 39 f_law_common] [Has tab 40 f_law_low] [Has tab 43 f_law_times] [Has tab 46 f_law_less] [Has tab 47 f_law_step] [Has tab 54 f_law_cross] [Has tab 55 f_law_hand] [Has tab 56 f_law_bayless] (k : Nat) {P : Nat → Pt} {pd : D} {n : Nat} (hp : PtD pd P n) {ring : List Nat} (hr : ∀ c ∈ ring, c < n) (hl : ring.length ≤ 4000) :
    run tab (k + 6) 56 [.val pd, .val (rD ring)] = .ret false (.bl (bayB P ring)) [] := by
  rw [run_at (i := 56) inferInstance]
  obtain ⟨m, hm, hn⟩ := lset_r hl
  by_cases h1 : ring.length < 3
  · have e : bayB P ring = false := by unfold bayB; rw [decide_eq_false (by omega)]; rfl
    rw [e]
    have h1' : (ring.length : Int) < 3 := by omega
    simp [f_law_bayless, h1']
  · have h1' : ¬ (ring.length : Int) < 3 := by omega
    by_cases h2 : ring.Nodup
    · obtain ⟨t2, t3, t4, t5, ho⟩ := bay_out (tab := tab) k hp hr (steps ring) 0 .emp .emp .emp .emp rfl
      rw [steps_length] at ho
      have h2' := hn.mpr h2
      have hrg := rng_len ring.length (by omega)
      by_cases h3 : (steps ring).all (bayIn P ring) = true
      · have e : bayB P ring = true := by unfold bayB; rw [decide_eq_true (by omega), decide_eq_true h2, h3]; rfl
        rw [if_pos h3] at ho
        rw [e]
        simp [f_law_bayless, h1', hm, h2', hrg, ho]
      · have e : bayB P ring = false := by unfold bayB; rw [Bool.eq_false_iff.mpr h3, Bool.and_false]
        rw [if_neg h3] at ho
        rw [e]
        simp [f_law_bayless, h1', hm, h2', hrg, ho]
    · have e : bayB P ring = false := by unfold bayB; rw [decide_eq_false h2, Bool.and_false]; rfl
      have h2' : ¬ m = ring.length := fun z => h2 (hn.mp z)
      rw [e]
      have h2'' : ¬ (m : Int) = (ring.length : Int) := by omega
      simp [f_law_bayless, h1', hm, h2'']
end
end Vm

/-! ThI: steps gathered; edges and their sides; the outer ring. -/
namespace Vm
open PySem L2 Geo
/-- faces as data -/
structure Fc (fd : D) (fs : List (List Nat)) : Prop where
  ix : ∀ (i : Nat) (h : i < fs.length), idxD fd (.int (i : Nat)) = some (rD fs[i])
  ln : biD .len [fd] = some (.int (fs.length : Nat))
  it : itemsD fd = some (fs.map rD)
theorem Fc.lst (fs : List (List Nat)) : Fc (fcsL fs) fs := ⟨fun _ h => (ix_fcs h).1, len_fcsL fs, rfl⟩
theorem Fc.tup (fs : List (List Nat)) : Fc (fcsT fs) fs := ⟨fun _ h => (ix_fcs h).2, len_fcsT fs, rfl⟩
def withV (l : List (Nat × Nat)) (v : D) : List ((Nat × Nat) × D) := l.map fun s => (s, v)
theorem withV_fst (l : List (Nat × Nat)) (v : D) : (withV l v).map (·.1) = l := by unfold withV; rw [List.map_map]; exact List.map_id _
theorem nodup_mid {α : Type} {a b : List α} {x : α} (h : (a ++ x :: b).Nodup) : x ∉ a ∧ ((a ++ [x]) ++ b).Nodup := by
  refine ⟨fun m => (List.nodup_append.mp h).2.2 x m x List.mem_cons_self rfl, by simpa using h⟩
section
variable {tab : Nat → Option Fn}
/-! ### _law_rim_of -/
theorem rimof_in (call : CallT) {f : List Nat} {d0 : D} {s3 s4 s5 s6 : Slot} : ∀ (rest : List (Nat × Nat)) (k0 : Nat) (m : List ((Nat × Nat) × D)) (s7 : Slot), (steps f).drop k0 = rest → (m.map (·.1) ++ rest).Nodup → m.length + rest.length ≤ 4096 →
    ∃ s7', forS call [] false [7] b_law_rim_of_4 (idxs k0 rest.length) [.val d0, .own (stD m), .val (rD f), s3, s4, s5, s6, s7] = .next [.val d0, .own (stD (m ++ withV rest (.bl true))), .val (rD f), s3, s4, s5, s6, s7']
  | [], k0, m, s7, _, _, _ => ⟨s7, by show SR.next _ = _; unfold withV; rw [List.map_nil, List.append_nil]⟩
  | s :: rest, k0, m, s7, hd, hn, hl => by
    obtain ⟨hk, e1, e2⟩ := drop_get hd
    obtain ⟨g1, g2⟩ := step_at hk
    rw [e1] at g1 g2
    obtain ⟨n1, n2⟩ := nodup_mid hn
    have hl' : m.length + (rest.length + 1) ≤ 4096 := hl
    obtain ⟨s7', ih⟩ := rimof_in call rest (k0 + 1) (m ++ [(s, .bl true)]) (.val (nD k0)) e2 (by rw [List.map_append]; exact n2) (by simp; omega)
    refine ⟨s7', ?_⟩
    have ps := put_st (v := .bl true) n1 (by omega : m.length < 4096)
    have e3 : m ++ [(s, .bl true)] ++ withV rest (.bl true) = m ++ withV (s :: rest) (.bl true) := by unfold withV; simp
    rw [e3] at ih
    rw [List.length_cons, idxs_succ, forS_cons, ← ih]
    have nk : nD k0 = .int (k0 : Int) := rfl
    have sk : D.tup [nD s.1, nD s.2] = sD s := rfl
    rw [nk]
    simp [b_law_rim_of_4, g1, g2, sk, ps]
theorem rimof_out (call : CallT) {d0 : D} {s3 s4 s5 s6 : Slot} : ∀ (fs : List (List Nat)) (m : List ((Nat × Nat) × D)) (s2 s7 : Slot), (m.map (·.1) ++ allSteps fs).Nodup → m.length + (allSteps fs).length ≤ 4096 → (∀ f ∈ fs, f.length < 4000) →
    ∃ s2' s7', forS call [] false [2] b_law_rim_of_3 (fs.map rD) [.val d0, .own (stD m), s2, s3, s4, s5, s6, s7] = .next [.val d0, .own (stD (m ++ withV (allSteps fs) (.bl true))), s2', s3, s4, s5, s6, s7']
  | [], m, s2, s7, _, _, _ => ⟨s2, s7, by show SR.next _ = _; unfold withV allSteps; rw [List.flatMap_nil, List.map_nil, List.append_nil]⟩
  | f :: fs, m, s2, s7, hn, hl, hf => by
    rw [allSteps_cons] at hn hl ⊢
    rw [List.length_append] at hl
    have n1 : (m.map (·.1) ++ steps f).Nodup := (List.nodup_append.mp (by rw [← List.append_assoc] at hn; exact hn)).1
    obtain ⟨t7, hin⟩ := rimof_in call (f := f) (d0 := d0) (s3 := s3) (s4 := s4) (s5 := s5) (s6 := s6) (steps f) 0 m s7 rfl n1 (by omega)
    obtain ⟨s2', s7', ih⟩ := rimof_out call (d0 := d0) (s3 := s3) (s4 := s4) (s5 := s5) (s6 := s6) fs (m ++ withV (steps f) (.bl true)) (.val (rD f)) t7 (by rw [List.map_append, withV_fst, List.append_assoc]; exact hn) (by rw [List.length_append]; unfold withV; rw [List.length_map]; omega) fun g hg => hf g (List.mem_cons_of_mem _ hg)
    refine ⟨s2', s7', ?_⟩
    have e3 : m ++ withV (steps f) (.bl true) ++ withV (allSteps fs) (.bl true) = m ++ withV (steps f ++ allSteps fs) (.bl true) := by unfold withV; simp
    rw [e3] at ih
    rw [steps_length] at hin
    have hr := rng_len f.length (by have := hf f List.mem_cons_self; omega)
    rw [List.map_cons, forS_cons, ← ih]
    simp [b_law_rim_of_3, hr, hin]
/-- the steps without a way back -/
def bdS (all : List (Nat × Nat)) : List (Nat × Nat) := all.filter fun s => !decide ((s.2, s.1) ∈ all)
def onw (l : List (Nat × Nat)) : List (Nat × D) := l.map fun s => (s.1, nD s.2)
theorem rimof_on (call : CallT) {d0 : D} {M : List ((Nat × Nat) × D)} {s2 s5 s6 s7 : Slot} : ∀ (l : List (Nat × Nat)) (m : List (Nat × D)) (s4 : Slot), (m.map (·.1) ++ (l.filter fun s => !decide ((s.2, s.1) ∈ M.map (·.1))).map (·.1)).Nodup → m.length + l.length ≤ 4096 →
    ∃ s4', forS call [] false [4] b_law_rim_of_2 (l.map sD) [.val d0, .own (stD M), s2, .own (ndD m), s4, s5, s6, s7] = .next [.val d0, .own (stD M), s2, .own (ndD (m ++ onw (l.filter fun s => !decide ((s.2, s.1) ∈ M.map (·.1))))), s4', s5, s6, s7]
  | [], m, s4, _, _ => ⟨s4, by show SR.next _ = _; unfold onw; rw [List.filter_nil, List.map_nil, List.append_nil]⟩
  | s :: l, m, s4, hn, hl => by
    have hl' : m.length + (l.length + 1) ≤ 4096 := hl
    have hi := in_st M (s.2, s.1)
    have sk : D.tup [nD s.2, nD s.1] = sD (s.2, s.1) := rfl
    by_cases hb : (s.2, s.1) ∈ M.map (·.1)
    · have e : (s :: l).filter (fun s => !decide ((s.2, s.1) ∈ M.map (·.1))) = l.filter fun s => !decide ((s.2, s.1) ∈ M.map (·.1)) := List.filter_cons_of_neg (by simp only [decide_eq_true hb]; decide)
      rw [e] at hn ⊢
      obtain ⟨s4', ih⟩ := rimof_on call l m (.val (sD s)) hn (by omega)
      refine ⟨s4', ?_⟩
      rw [decide_eq_true hb] at hi
      rw [List.map_cons, forS_cons, ← ih]
      simp [b_law_rim_of_2, sk, hi]
    · have e : (s :: l).filter (fun s => !decide ((s.2, s.1) ∈ M.map (·.1))) = s :: l.filter fun s => !decide ((s.2, s.1) ∈ M.map (·.1)) := List.filter_cons_of_pos (by simp only [decide_eq_false hb]; decide)
      rw [e] at hn ⊢
      rw [List.map_cons] at hn
      obtain ⟨n1, n2⟩ := nodup_mid hn
      obtain ⟨s4', ih⟩ := rimof_on call l (m ++ [(s.1, nD s.2)]) (.val (sD s)) (by rw [List.map_append]; exact n2) (by simp; omega)
      refine ⟨s4', ?_⟩
      rw [decide_eq_false hb] at hi
      have ps := put_nd (v := nD s.2) n1 (by omega : m.length < 4096)
      have e3 : m ++ [(s.1, nD s.2)] ++ onw (l.filter fun s => !decide ((s.2, s.1) ∈ M.map (·.1))) = m ++ onw (s :: l.filter fun s => !decide ((s.2, s.1) ∈ M.map (·.1))) := by unfold onw; simp
      rw [e3] at ih
      rw [List.map_cons, forS_cons, ← ih]
      simp [b_law_rim_of_2, sk, hi, ps]
/-- a walk round a ring -/
theorem ring_next {R : List Nat} (hn : R.Nodup) {M : List (Nat × D)} (hM : ∀ u v, (u, v) ∈ steps R → lk M u = some (nD v)) {t : Nat} (ht : t + 1 < R.length) : lk M R[t] = some (nD R[t + 1]) := by
  refine hM _ _ ?_
  have hs : t + 1 < (steps R).length := by rw [steps_length]; exact ht
  have h2 := (steps R).getElem_mem hs
  have e2 : ((steps R)[t + 1]).2 = R[t + 1] := by
    have := steps_snd R
    have h3 : ((steps R).map (·.2))[t + 1]'(by rw [List.length_map]; exact hs) = R[t + 1] := by simp only [this]
    rw [← h3, List.getElem_map]
  have e1 : ((steps R)[t + 1]).1 = R[t] := by
    unfold steps at hs ⊢
    rw [stepsFrom_get]
    show R[t]?.getD 0 = _
    rw [List.getElem?_eq_getElem (by omega)]; rfl
  rw [← e1, ← e2]; exact h2
theorem rimof_walk (call : CallT) {d0 : D} {s1 s2 s4 s7 : Slot} {M : List (Nat × D)} {R : List Nat} (hn : R.Nodup) (hM : ∀ u v, (u, v) ∈ steps R → lk M u = some (nD v)) (hl : R.length ≤ 4000) : ∀ (l : List D) (t : Nat) (s6 : Slot), t + 1 + l.length = R.length →
    ∃ s6', forS call [] false [6] b_law_rim_of_1 l [.val d0, s1, s2, .own (ndD M), s4, .own (.lst ((R.take (t + 1)).map nD)), s6, s7] = .next [.val d0, s1, s2, .own (ndD M), s4, .own (.lst (R.map nD)), s6', s7]
  | [], t, s6, ht => ⟨s6, by show SR.next _ = _; rw [List.take_of_length_le (by simp at ht; omega)]⟩
  | d :: l, t, s6, ht => by
    have ht' : t + 1 + (l.length + 1) = R.length := ht
    obtain ⟨s6', ih⟩ := rimof_walk call (d0 := d0) (s1 := s1) (s2 := s2) (s4 := s4) (s7 := s7) hn hM hl l (t + 1) (.val d) (by omega)
    refine ⟨s6', ?_⟩
    have hlast : idxD (.lst ((R.take (t + 1)).map nD)) (.int (-1)) = some (nD R[t]) := by
      rw [ix_lstD, atI_last, List.getLast?_map, List.getLast?_take, if_neg (by omega)]
      simp only [Nat.add_sub_cancel]
      rw [List.getElem?_eq_getElem (by omega)]; rfl
    have hnx := ring_next hn hM (t := t) (by omega)
    have hix := ix_nd M R[t]
    rw [hnx] at hix
    have ha : appD (.lst ((R.take (t + 1)).map nD)) (nD R[t + 1]) = some (.lst ((R.take (t + 1 + 1)).map nD)) := by
      unfold appD
      dsimp only
      rw [if_pos (by rw [List.length_map, List.length_take]; omega)]
      rw [List.take_add_one (i := t + 1), List.getElem?_eq_getElem (by omega), List.map_append]; rfl
    rw [forS_cons, ← ih]
    generalize (R.take (t + 1)).map nD = A at hlast ha ⊢
    generalize (R.take (t + 1 + 1)).map nD = B at ha ⊢
    simp [b_law_rim_of_1, hlast, hix, ha]
/-- what the outer ring is -/
structure Rimmed (all : List (Nat × Nat)) (rim : List Nat) : Prop where
  nd : rim.Nodup
  nda : all.Nodup
  bd : ∀ u v, (u, v) ∈ steps rim ↔ (u, v) ∈ all ∧ (v, u) ∉ all
theorem Rimmed.perm {all : List (Nat × Nat)} {rim : List Nat} (h : Rimmed all rim) : (bdS all).Perm (steps rim) := by
  refine (List.perm_ext_iff_of_nodup ((List.filter_sublist).nodup h.nda) (steps_nodup h.nd)).mpr fun s => ?_
  rw [List.mem_filter]
  have := h.bd s.1 s.2
  simp only [Bool.not_eq_true', decide_eq_false_iff_not]
  exact this.symm
theorem Rimmed.firsts {all : List (Nat × Nat)} {rim : List Nat} (h : Rimmed all rim) : ((bdS all).map (·.1)).Perm rim := (h.perm.map _).trans (steps_fst rim)
theorem minN_perm {a b : List Nat} (h : a.Perm b) : minN a = minN b := by
  cases a with
  | nil => rw [h.nil_eq]
  | cons x a =>
    have hb : b ≠ [] := fun e => by subst e; exact absurd h.length_eq (by simp)
    obtain ⟨h1, h2⟩ := minN_mem (l := x :: a) (by simp)
    obtain ⟨h3, h4⟩ := minN_mem hb
    have := h2 _ (h.mem_iff.mpr h3)
    have := h4 _ (h.mem_iff.mp h1)
    omega
theorem onw_lk {l : List (Nat × Nat)} (hn : (l.map (·.1)).Nodup) {u v : Nat} (h : (u, v) ∈ l) : lk (onw l) u = some (nD v) := by
  refine lk_of ?_ (List.mem_map.mpr ⟨_, h, rfl⟩)
  unfold onw
  rw [List.map_map]; exact hn
theorem r_rim_of [Has tab 66 f_law_rim_of] (k : Nat) {fd : D} {fs : List (List Nat)} (hfd : Fc fd fs) {rim : List Nat} (hr : Rimmed (allSteps fs) rim) (h0 : rim ≠ []) (hl : (allSteps fs).length ≤ 4000) (hf : ∀ f ∈ fs, f.length < 4000) : run tab (k + 1) 66 [.val fd] = .ret false (rD (fromLeast rim)) [] := by
  rw [run_at (i := 66) inferInstance]
  have hall := hr.nda
  generalize ha : allSteps fs = all at *
  obtain ⟨t2, t7, h1⟩ := rimof_out (run tab k) (d0 := fd) (s3 := .emp) (s4 := .emp) (s5 := .emp) (s6 := .emp) fs [] .emp .emp (by rw [ha]; simpa using hall) (by rw [ha]; simp; omega) hf
  rw [ha, List.nil_append] at h1
  have nb : ((bdS all).map (·.1)).Nodup := hr.firsts.nodup_iff.mpr hr.nd
  have eM : (withV all (.bl true)).map (·.1) = all := withV_fst _ _
  obtain ⟨t4, h2⟩ := rimof_on (run tab k) (d0 := fd) (M := withV all (.bl true)) (s2 := t2) (s5 := .emp) (s6 := .emp) (s7 := t7) all [] .emp (by rw [eM]; exact nb) (by simp; omega)
  rw [eM, List.nil_append] at h2
  have e5 : (all.filter fun s => !decide ((s.2, s.1) ∈ all)) = bdS all := rfl
  rw [e5] at h2
  have hlen : (bdS all).length = rim.length := by have := hr.firsts.length_eq; rwa [List.length_map] at this
  have hpos : 0 < rim.length := List.length_pos_iff.mpr h0
  have hrl : rim.length ≤ 4000 := by rw [← hlen]; unfold bdS; exact Nat.le_trans (List.length_filter_le ..) hl
  have hne : (onw (bdS all)).map (·.1) ≠ [] := by
    intro z
    have := congrArg List.length z
    unfold onw at this
    simp at this
    rw [← List.length_eq_zero_iff, hlen] at this
    omega
  have eo : (onw (bdS all)).map (·.1) = (bdS all).map (·.1) := by unfold onw; rw [List.map_map]; rfl
  have hmin := min_lst hne
  rw [eo, minN_perm hr.firsts] at hmin
  obtain ⟨R, hR⟩ := rotAt_head (minN_mem h0).1
  have hRr := rotAt_rot rim (minN rim)
  have hRn : (rotAt rim (minN rim)).Nodup := by
    obtain ⟨a, b, e1, e2⟩ := hRr
    rw [e2]
    rw [e1] at hr
    exact (List.perm_append_comm.nodup_iff).mp hr.nd
  have hw : ∀ u v, (u, v) ∈ steps (rotAt rim (minN rim)) → lk (onw (bdS all)) u = some (nD v) := fun u v hs => onw_lk nb (hr.perm.mem_iff.mpr (hRr.steps.mp hs))
  have hRl := rotAt_len rim (minN rim)
  obtain ⟨t6, h3⟩ := rimof_walk (run tab k) (d0 := fd) (s1 := .own (stD (withV all (.bl true)))) (s2 := t2) (s4 := t4) (s7 := t7) hRn hw (by omega) (idxs 0 (rim.length - 1)) 0 .emp (by unfold idxs; simp; omega)
  rw [hR] at h3
  have e6 : ((minN rim :: R).take (0 + 1)).map nD = [nD (minN rim)] := rfl
  rw [e6] at h3
  have hrg := rng_len (rim.length - 1) (by omega)
  have e7 : (((rim.length - 1 : Nat)) : Int) = ((onw (bdS all)).length : Int) - 1 := by unfold onw; rw [List.length_map, hlen]; omega
  rw [e7] at hrg
  have e8 : stD [] = .dt [] := rfl
  have e9 : ndD [] = .dk [] := rfl
  rw [e8] at h1
  rw [e9] at h2
  have l1 := list_st (withV all (.bl true))
  rw [eM] at l1
  have l2 := list_nd (onw (bdS all))
  rw [eo] at l2
  have l3 := len_nd (onw (bdS all))
  have hfl : biD .tuple [.lst ((minN rim :: R).map nD)] = some (rD (fromLeast rim)) := by
    unfold fromLeast
    rw [hR]; rfl
  generalize ((bdS all).map (·.1)).map nD = A at l2 hmin
  generalize (minN rim :: R).map nD = B at h3 hfl
  simp [f_law_rim_of, hfd.it, h1, l1, h2, l2, hmin, l3, hrg, h3, hfl]
end
end Vm

/-! ThJ: the program's steps, outer ring, inner edges. -/
namespace Vm
open PySem L2 Geo
section
variable {tab : Nat → Option Fn}
theorem stepsof_in (call : CallT) {f : List Nat} {d0 : D} {v : Int} : ∀ (rest : List (Nat × Nat)) (k0 : Nat) (m : List ((Nat × Nat) × D)) (s4 s5 : Slot), (steps f).drop k0 = rest → (m.map (·.1) ++ rest).Nodup → m.length + rest.length ≤ 4096 →
    ∃ s4' s5', forS call [] false [4] b_steps_of_2 (idxs k0 rest.length) [.val d0, .own (stD m), .val (.int v), .val (rD f), s4, s5] = .next [.val d0, .own (stD (m ++ withV rest (.int v))), .val (.int v), .val (rD f), s4', s5']
  | [], k0, m, s4, s5, _, _, _ => ⟨s4, s5, by show SR.next _ = _; unfold withV; rw [List.map_nil, List.append_nil]⟩
  | s :: rest, k0, m, s4, s5, hd, hn, hl => by
    obtain ⟨hk, e1, e2⟩ := drop_get hd
    obtain ⟨g1, g2⟩ := step_at hk
    rw [e1] at g1 g2
    obtain ⟨n1, n2⟩ := nodup_mid hn
    have hl' : m.length + (rest.length + 1) ≤ 4096 := hl
    obtain ⟨s4', s5', ih⟩ := stepsof_in call (d0 := d0) (v := v) rest (k0 + 1) (m ++ [(s, .int v)]) (.val (nD k0)) (.val (sD s)) e2 (by rw [List.map_append]; exact n2) (by simp; omega)
    refine ⟨s4', s5', ?_⟩
    have ps := put_st (v := .int v) n1 (by omega : m.length < 4096)
    have hi := in_st m s
    rw [decide_eq_false n1] at hi
    have e3 : m ++ [(s, .int v)] ++ withV rest (.int v) = m ++ withV (s :: rest) (.int v) := by unfold withV; simp
    rw [e3] at ih
    rw [List.length_cons, idxs_succ, forS_cons, ← ih]
    have nk : nD k0 = .int (k0 : Int) := rfl
    have sk : D.tup [nD s.1, nD s.2] = sD s := rfl
    rw [nk]
    simp [b_steps_of_2, g1, g2, sk, hi, ps]
/-- the steps with their faces -/
def sidxD (k : Nat) (fs : List (List Nat)) : List ((Nat × Nat) × D) := (sidx k fs).map fun p => (p.1, nD p.2)
theorem sidxD_fst (k : Nat) (fs : List (List Nat)) : (sidxD k fs).map (·.1) = allSteps fs := by unfold sidxD; rw [List.map_map, ← sidx_fst k fs]; rfl
theorem sidxD_cons (k : Nat) (f : List Nat) (fs : List (List Nat)) : sidxD k (f :: fs) = withV (steps f) (nD k) ++ sidxD (k + 1) fs := by
  unfold sidxD
  show ((steps f).map (fun s => (s, k)) ++ sidx (k + 1) fs).map _ = _
  rw [List.map_append, List.map_map]; rfl
theorem stepsof_out (call : CallT) {d0 : D} {gs : List (List Nat)} (hg : Fc d0 gs) : ∀ (fs : List (List Nat)) (i0 : Nat) (m : List ((Nat × Nat) × D)) (s2 s3 s4 s5 : Slot), gs.drop i0 = fs → (m.map (·.1) ++ allSteps fs).Nodup → m.length + (allSteps fs).length ≤ 4096 → (∀ f ∈ fs, f.length < 4000) →
    ∃ s2' s3' s4' s5', forS call [] false [2] b_steps_of_1 (idxs i0 fs.length) [.val d0, .own (stD m), s2, s3, s4, s5] = .next [.val d0, .own (stD (m ++ sidxD i0 fs)), s2', s3', s4', s5']
  | [], i0, m, s2, s3, s4, s5, _, _, _, _ => ⟨s2, s3, s4, s5, by show SR.next _ = _; unfold sidxD sidx; rw [List.map_nil, List.append_nil]⟩
  | f :: fs, i0, m, s2, s3, s4, s5, hd, hn, hl, hf => by
    obtain ⟨hk, e1, e2⟩ := drop_get hd
    have hix := hg.ix i0 hk
    rw [e1] at hix
    rw [allSteps_cons] at hn hl
    rw [List.length_append] at hl
    have n1 : (m.map (·.1) ++ steps f).Nodup := (List.nodup_append.mp (by rw [← List.append_assoc] at hn; exact hn)).1
    obtain ⟨t4, t5, hin⟩ := stepsof_in call (f := f) (d0 := d0) (v := (i0 : Int)) (steps f) 0 m s4 s5 rfl n1 (by omega)
    obtain ⟨s2', s3', s4', s5', ih⟩ := stepsof_out call hg fs (i0 + 1) (m ++ withV (steps f) (nD i0)) (.val (nD i0)) (.val (rD f)) t4 t5 e2 (by rw [List.map_append, withV_fst, List.append_assoc]; exact hn) (by rw [List.length_append]; unfold withV; rw [List.length_map]; omega) fun g hg => hf g (List.mem_cons_of_mem _ hg)
    refine ⟨s2', s3', s4', s5', ?_⟩
    rw [List.append_assoc, ← sidxD_cons] at ih
    rw [steps_length] at hin
    have hr := rng_len f.length (by have := hf f List.mem_cons_self; omega)
    have nk : nD i0 = .int (i0 : Int) := rfl
    rw [List.length_cons, idxs_succ, forS_cons, ← ih, nk]
    simp [b_steps_of_1, hix, hr, hin]
theorem r_steps_of [Has tab 15 f_steps_of] (k : Nat) {fd : D} {fs : List (List Nat)} (hfd : Fc fd fs) (hn : (allSteps fs).Nodup) (hl : (allSteps fs).length ≤ 4000) (h2 : fs.length < 4000) (hf : ∀ f ∈ fs, f.length < 4000) : run tab (k + 1) 15 [.val fd] = .ret true (stD (sidxD 0 fs)) [] := by
  rw [run_at (i := 15) inferInstance]
  obtain ⟨t2, t3, t4, t5, h1⟩ := stepsof_out (run tab k) hfd fs 0 [] .emp .emp .emp .emp rfl (by simpa using hn) (by simp; omega) hf
  rw [List.nil_append] at h1
  have e8 : stD [] = .dt [] := rfl
  rw [e8] at h1
  have hr := rng_len fs.length (by omega)
  simp [f_steps_of, hfd.ln, hr, h1]
/-! ### ring_of -/
theorem ringof_on (call : CallT) {M : List ((Nat × Nat) × D)} {s3 : Slot} : ∀ (l : List (Nat × Nat)) (m : List (Nat × D)) (s2 : Slot), (m.map (·.1) ++ (l.filter fun s => !decide ((s.2, s.1) ∈ M.map (·.1))).map (·.1)).Nodup → m.length + l.length ≤ 4096 →
    ∃ s2', forS call [] false [2] b_ring_of_2 (l.map sD) [.val (stD M), .own (ndD m), s2, s3] = .next [.val (stD M), .own (ndD (m ++ onw (l.filter fun s => !decide ((s.2, s.1) ∈ M.map (·.1))))), s2', s3]
  | [], m, s2, _, _ => ⟨s2, by show SR.next _ = _; unfold onw; rw [List.filter_nil, List.map_nil, List.append_nil]⟩
  | s :: l, m, s2, hn, hl => by
    have hl' : m.length + (l.length + 1) ≤ 4096 := hl
    have hi := in_st M (s.2, s.1)
    have sk : D.tup [nD s.2, nD s.1] = sD (s.2, s.1) := rfl
    by_cases hb : (s.2, s.1) ∈ M.map (·.1)
    · have e : (s :: l).filter (fun s => !decide ((s.2, s.1) ∈ M.map (·.1))) = l.filter fun s => !decide ((s.2, s.1) ∈ M.map (·.1)) := List.filter_cons_of_neg (by simp only [decide_eq_true hb]; decide)
      rw [e] at hn ⊢
      obtain ⟨s2', ih⟩ := ringof_on call l m (.val (sD s)) hn (by omega)
      refine ⟨s2', ?_⟩
      rw [decide_eq_true hb] at hi
      rw [List.map_cons, forS_cons, ← ih]
      simp [b_ring_of_2, sk, hi]
    · have e : (s :: l).filter (fun s => !decide ((s.2, s.1) ∈ M.map (·.1))) = s :: l.filter fun s => !decide ((s.2, s.1) ∈ M.map (·.1)) := List.filter_cons_of_pos (by simp only [decide_eq_false hb]; decide)
      rw [e] at hn ⊢
      rw [List.map_cons] at hn
      obtain ⟨n1, n2⟩ := nodup_mid hn
      obtain ⟨s2', ih⟩ := ringof_on call l (m ++ [(s.1, nD s.2)]) (.val (sD s)) (by rw [List.map_append]; exact n2) (by simp; omega)
      refine ⟨s2', ?_⟩
      rw [decide_eq_false hb] at hi
      have ps := put_nd (v := nD s.2) n1 (by omega : m.length < 4096)
      have hj := in_nd m s.1
      rw [decide_eq_false n1] at hj
      have e3 : m ++ [(s.1, nD s.2)] ++ onw (l.filter fun s => !decide ((s.2, s.1) ∈ M.map (·.1))) = m ++ onw (s :: l.filter fun s => !decide ((s.2, s.1) ∈ M.map (·.1))) := by unfold onw; simp
      rw [e3] at ih
      rw [List.map_cons, forS_cons, ← ih]
      simp [b_ring_of_2, sk, hi, hj, ps]
theorem get_nd (m : List (Nat × D)) (s : Nat) (x : D) : mthD .get (ndD m) [nD s, x] = some ((lk m s).getD x) := by
  show (dget (ndD m) (nD s)).map (fun o => o.getD x) = _
  rw [dget_nd]; rfl
theorem rcv_nd (m : List (Nat × D)) : rcv .get (ndD m) = true := rfl
theorem take_last {R : List Nat} {t : Nat} (ht : t < R.length) : idxD (.lst ((R.take (t + 1)).map nD)) (.int (-1)) = some (nD R[t]) := by
  rw [ix_lstD, atI_last, List.getLast?_map, List.getLast?_take, if_neg (by omega)]
  simp only [Nat.add_sub_cancel]
  rw [List.getElem?_eq_getElem ht]; rfl
theorem take_first {R : List Nat} {t : Nat} (ht : 0 < R.length) : idxD (.lst ((R.take (t + 1)).map nD)) (.int 0) = some (nD R[0]) := by
  obtain ⟨x, r, rfl⟩ := List.exists_cons_of_length_pos ht
  simp
theorem take_app {R : List Nat} {t : Nat} (ht : t + 1 < R.length) (hl : R.length ≤ 4000) : appD (.lst ((R.take (t + 1)).map nD)) (nD R[t + 1]) = some (.lst ((R.take (t + 1 + 1)).map nD)) := by
  unfold appD
  dsimp only
  rw [if_pos (by rw [List.length_map, List.length_take]; omega)]
  rw [List.take_add_one (i := t + 1), List.getElem?_eq_getElem (by omega), List.map_append]; rfl
/-- behind the last one comes the first -/
theorem ring_close {R : List Nat} {M : List (Nat × D)} (hM : ∀ u v, (u, v) ∈ steps R → lk M u = some (nD v)) {t : Nat} (ht : t + 1 = R.length) : lk M R[t] = some (nD R[0]) := by
  refine hM _ _ ?_
  cases R with
  | nil => simp at ht
  | cons x l =>
    rw [steps_cons]
    have : (x :: l)[t] = l.getLastD x := by
      have ht' : t = l.length := by simpa using ht
      subst ht'
      cases l with
      | nil => rfl
      | cons y l => simp [List.getLastD_eq_getLast?, List.getLast?_eq_getElem?]
    rw [this]; exact List.mem_cons_self
theorem ringof_walk (call : CallT) {d0 : D} {s2 : Slot} {M : List (Nat × D)} {R : List Nat} (hn : R.Nodup) (hM : ∀ u v, (u, v) ∈ steps R → lk M u = some (nD v)) (hl : R.length ≤ 62) (hm : M.length = R.length) : ∀ (r t : Nat), t + 1 + r = R.length → ∀ F, r < F →
    whlE call [] w_ring_of_1 b_ring_of_1 F [.val d0, .own (ndD M), s2, .own (.lst ((R.take (t + 1)).map nD))] = .next [.val d0, .own (ndD M), s2, .own (.lst (R.map nD))]
  | 0, t, ht, F + 1, hF => by
    have ht' : t + 1 = R.length := by omega
    have hc := ring_close hM ht'
    have a1 := take_last (R := R) (t := t) (by omega)
    have a2 := take_first (R := R) (t := t) (by omega)
    have g := get_nd M R[t] (nD R[0])
    rw [hc] at g
    have e : R.take (t + 1) = R := List.take_of_length_le (by omega)
    rw [e] at a1 a2 ⊢
    rw [whl1]
    generalize R.map nD = A at a1 a2 ⊢
    simp [w_ring_of_1, a1, a2, rcv_nd, g]
  | r + 1, t, ht, F + 1, hF => by
    have hx := ring_next hn hM (t := t) (by omega)
    have a1 := take_last (R := R) (t := t) (by omega)
    have a2 := take_first (R := R) (t := t) (by omega)
    have a3 := take_app (R := R) (t := t) (by omega) (by omega)
    have g := get_nd M R[t] (nD R[0])
    rw [hx] at g
    have hix := ix_nd M R[t]
    rw [hx] at hix
    have ne : ¬ R[t + 1] = R[0] := fun e => by
      have := List.pairwise_iff_getElem.mp hn 0 (t + 1) (by omega) (by omega) (by omega)
      exact this e.symm
    have ih := ringof_walk call (d0 := d0) (s2 := s2) hn hM hl hm r (t + 1) (by omega) F (by omega)
    have l1 := len_nd M
    have ll : ((R.take (t + 1)).map nD).length = t + 1 := by rw [List.length_map, List.length_take]; omega
    have l2 : biD .len [.lst ((R.take (t + 1)).map nD)] = some (.int ((t + 1 : Nat) : Int)) := by rw [len_lst, ll]
    have l3 : (t : Int) + 1 ≤ (M.length : Int) := by omega
    have l3' : ¬ (M.length : Int) < (t : Int) + 1 := by omega
    rw [whl1, ← ih]
    clear ih
    generalize (R.take (t + 1)).map nD = A at a1 a2 a3 l2 ⊢
    generalize (R.take (t + 1 + 1)).map nD = B at a3 ⊢
    simp [w_ring_of_1, b_ring_of_1, a1, a2, rcv_nd, g, ne, l1, l2, l3, l3', hix, a3, -len_lst]
theorem r_ring_of [Has tab 16 f_ring_of] (k : Nat) {fs : List (List Nat)} {rim : List Nat} (hr : Rimmed (allSteps fs) rim) (h0 : rim ≠ []) (h62 : rim.length ≤ 62) (hl : (allSteps fs).length ≤ 4000) : run tab (k + 1) 16 [.val (stD (sidxD 0 fs))] = .ret false (rD (fromLeast rim)) [] := by
  rw [run_at (i := 16) inferInstance]
  have hall := hr.nda
  have eM := sidxD_fst 0 fs
  generalize sidxD 0 fs = M at eM ⊢
  generalize allSteps fs = all at *
  have nb : ((bdS all).map (·.1)).Nodup := hr.firsts.nodup_iff.mpr hr.nd
  obtain ⟨t2, h2⟩ := ringof_on (run tab k) (M := M) (s3 := .emp) all [] .emp (by rw [eM]; exact nb) (by simp; omega)
  rw [eM, List.nil_append] at h2
  have e5 : (all.filter fun s => !decide ((s.2, s.1) ∈ all)) = bdS all := rfl
  rw [e5] at h2
  have hlen : (bdS all).length = rim.length := by have := hr.firsts.length_eq; rwa [List.length_map] at this
  have hpos : 0 < rim.length := List.length_pos_iff.mpr h0
  have eo : (onw (bdS all)).map (·.1) = (bdS all).map (·.1) := by unfold onw; rw [List.map_map]; rfl
  have hne : (onw (bdS all)).map (·.1) ≠ [] := by
    rw [eo]
    intro z
    have := congrArg List.length z
    rw [List.length_map, hlen] at this
    have h9 : rim.length = 0 := this
    omega
  have hmin := min_lst hne
  rw [eo, minN_perm hr.firsts] at hmin
  obtain ⟨R, hR⟩ := rotAt_head (minN_mem h0).1
  have hRr := rotAt_rot rim (minN rim)
  have hRn : (rotAt rim (minN rim)).Nodup := by
    obtain ⟨a, b, e1, e2⟩ := hRr
    rw [e2]
    rw [e1] at hr
    exact (List.perm_append_comm.nodup_iff).mp hr.nd
  have hw : ∀ u v, (u, v) ∈ steps (rotAt rim (minN rim)) → lk (onw (bdS all)) u = some (nD v) := fun u v hs => onw_lk nb (hr.perm.mem_iff.mpr (hRr.steps.mp hs))
  have hRl := rotAt_len rim (minN rim)
  have ol : (onw (bdS all)).length = rim.length := by unfold onw; rw [List.length_map, hlen]
  have h3 := ringof_walk (run tab k) (d0 := stD M) (s2 := t2) hRn hw (by omega) (by omega) (rim.length - 1) 0 (by omega) 64 (by omega)
  have hcl := ring_close hw (t := rim.length - 1) (by omega)
  have a1 := take_last (R := rotAt rim (minN rim)) (t := rim.length - 1) (by omega)
  have a2 := take_first (R := rotAt rim (minN rim)) (t := rim.length - 1) (by omega)
  have et : (rotAt rim (minN rim)).take (rim.length - 1 + 1) = rotAt rim (minN rim) := List.take_of_length_le (by omega)
  rw [et] at a1 a2
  have g := get_nd (onw (bdS all)) (rotAt rim (minN rim))[rim.length - 1] (.int (-1))
  rw [hcl] at g
  have l4 : biD .len [.lst ((rotAt rim (minN rim)).map nD)] = some (.int (rim.length : Nat)) := by rw [len_lst, List.length_map, hRl]
  have hfl : biD .tuple [.lst ((rotAt rim (minN rim)).map nD)] = some (rD (fromLeast rim)) := rfl
  have e6 : ((rotAt rim (minN rim)).take (0 + 1)).map nD = [nD (minN rim)] := by rw [hR]; rfl
  rw [e6] at h3
  have e9 : ndD [] = .dk [] := rfl
  rw [e9] at h2
  have l1 := list_st M
  rw [eM] at l1
  have l2 := list_nd (onw (bdS all))
  rw [eo] at l2
  have l3 := len_nd (onw (bdS all))
  rw [ol] at l3
  have hz : ¬ ((rim.length : Nat) : Int) = 0 := by omega
  generalize ((bdS all).map (·.1)).map nD = A at l2 hmin
  generalize (rotAt rim (minN rim)).map nD = B at h3 hfl a1 a2 l4
  simp [f_ring_of, l1, h2, l3, h0, l2, hmin, h3, l4, a1, a2, rcv_nd, g, hfl, -len_lst]
theorem r_outer_ring [Has tab 15 f_steps_of] [Has tab 16 f_ring_of] [Has tab 18 f_outer_ring] (k : Nat) {dd fd : D} {fs : List (List Nat)} (hd : idxD dd (.int 1) = some fd) (hfd : Fc fd fs) {rim : List Nat} (hr : Rimmed (allSteps fs) rim) (h0 : rim ≠ []) (h62 : rim.length ≤ 62) (hl : (allSteps fs).length ≤ 4000) (h2 : fs.length < 4000) (hf : ∀ f ∈ fs, f.length < 4000) :
    run tab (k + 2) 18 [.val dd] = .ret false (rD (fromLeast rim)) [] := by
  rw [run_at (i := 18) inferInstance]
  have a1 := r_steps_of (tab := tab) k hfd hr.nda hl h2 hf
  have a2 := r_ring_of (tab := tab) k hr h0 h62 hl
  simp [f_outer_ring, hd, a1, a2]
end
end Vm

/-! ThK: inner edges, wings, sides; faces cut and put together. -/
namespace Vm
open PySem L2 Geo
theorem filterMap_if {α : Type} (l : List α) (p : α → Bool) (g : α → D) : l.filterMap (fun a => if p a = true then some (g a) else none) = (l.filter p).map g := by
  induction l with
  | nil => rfl
  | cons a l ih =>
    rw [List.filterMap_cons]
    cases h : p a with
    | true => rw [List.filter_cons_of_pos h, List.map_cons, if_pos rfl, ih]
    | false => rw [List.filter_cons_of_neg (by rw [h]; decide), if_neg Bool.false_ne_true, ih]
def inn (all : List (Nat × Nat)) (s : Nat × Nat) : Bool := decide (s.1 < s.2) && decide ((s.2, s.1) ∈ all)
def innerE (fs : List (List Nat)) : List (Nat × Nat) := sortS ((allSteps fs).filter (inn (allSteps fs)))
/-- what is asked of faces, that their steps can be gathered -/
structure Fok (fs : List (List Nat)) : Prop where
  nd : (allSteps fs).Nodup
  sl : (allSteps fs).length ≤ 4000
  fl : fs.length < 4000
  el : ∀ f ∈ fs, f.length < 4000
section
variable {tab : Nat → Option Fn}
theorem r_inner_edges [Has tab 15 f_steps_of] [Has tab 20 f_inner_edges] (k : Nat) {dd fd : D} {fs : List (List Nat)} (hd : idxD dd (.int 1) = some fd) (hfd : Fc fd fs) (h : Fok fs) : run tab (k + 2) 20 [.val dd] = .ret true (.lst ((innerE fs).map sD)) [] := by
  rw [run_at (i := 20) inferInstance]
  have a1 := r_steps_of (tab := tab) k hfd h.nd h.sl h.fl h.el
  have l1 := list_st (sidxD 0 fs)
  rw [sidxD_fst] at l1
  have hc := comp_same (call := run tab (k + 1)) (refs := []) (e := [.val dd, .own (stD (sidxD 0 fs)), .emp]) (elt := e_inner_edges_1) (tp := false) (ts := [2]) (src := .ex (.bi .list (.cons (.var 1) .nil))) (cond := t_inner_edges_1)
    (xs := allSteps fs) (enc := sD) (fun s => if inn (allSteps fs) s = true then some (sD s) else none) (by simp [l1]) rfl (by have := h.sl; omega) (fun s hs => by
      refine ⟨_, rfl, rfl, ?_⟩
      have hi := in_st (sidxD 0 fs) (s.2, s.1)
      rw [sidxD_fst] at hi
      have sk : D.tup [nD s.2, nD s.1] = sD (s.2, s.1) := rfl
      have c1 : cmpD .lt (nD s.1) (nD s.2) = some (decide (s.1 < s.2)) := by
        show some (decide ((s.1 : Int) < (s.2 : Int))) = _
        congr 1
        rw [Bool.eq_iff_iff, decide_eq_true_eq, decide_eq_true_eq]; omega
      cases hb : inn (allSteps fs) s with
      | true =>
        obtain ⟨b1, b2⟩ := Bool.and_eq_true_iff.mp hb
        rw [b2] at hi
        rw [b1] at c1
        exact ⟨by simp [t_inner_edges_1, c1, sk, hi], false, by simp [e_inner_edges_1]⟩
      | false =>
        show _ = _
        rcases Bool.and_eq_false_iff.mp hb with b | b
        · rw [b] at c1
          simp [t_inner_edges_1, c1]
        · rw [b] at hi
          cases hb1 : decide (s.1 < s.2) with
          | true =>
            rw [hb1] at c1
            simp [t_inner_edges_1, c1, sk, hi]
          | false =>
            rw [hb1] at c1
            simp [t_inner_edges_1, c1])
  rw [filterMap_if] at hc
  have ss := sort_steps ((allSteps fs).filter (inn (allSteps fs)))
  generalize ((allSteps fs).filter (inn (allSteps fs))).map sD = A at hc ss
  simp [f_inner_edges, hd, a1, hc, ss]
  rfl
theorem in_neg (m : List ((Nat × Nat) × D)) {a b : Int} (h : a < 0 ∨ b < 0) : inD (.tup [.int a, .int b]) (stD m) = some false := by
  show some (look (m.map fun kv => (kS kv.1, kv.2)) [.inl a, .inl b]).isSome = _
  congr 1
  rw [Option.isSome_eq_false_iff, Option.isNone_iff_eq_none]
  unfold look
  rw [Option.map_eq_none_iff, List.find?_eq_none]
  intro x hx
  obtain ⟨y, _, rfl⟩ := List.mem_map.mp hx
  simp only [decide_eq_true_eq]
  intro e
  unfold kS at e
  simp at e
  omega
/-- wings of an inner edge, either way; else NoEdge -/
theorem r_wings [Has tab 15 f_steps_of] [Has tab 63 f_wings] (k : Nat) {dd fd : D} {fs : List (List Nat)} (hd : idxD dd (.int 1) = some fd) (hfd : Fc fd fs) (h : Fok fs) {u v : Nat} (h1 : (u, v) ∈ allSteps fs) (h2 : (v, u) ∈ allSteps fs) : ∃ l r : Nat, run tab (k + 2) 63 [.val dd, .val (nD u), .val (nD v)] = .ret false (.tup [nD l, nD r]) [] ∧ lk (sidx 0 fs) (u, v) = some l ∧ lk (sidx 0 fs) (v, u) = some r := by
  have key : ∀ s ∈ allSteps fs, ∃ l, lk (sidx 0 fs) s = some l ∧ lk (sidxD 0 fs) s = some (nD l) := fun s hs => by
    cases e : lk (sidx 0 fs) s with
    | none => exact absurd (by rw [sidx_fst]; exact hs) (lk_none.mp e)
    | some l =>
      refine ⟨l, rfl, lk_of (by rw [sidxD_fst]; exact h.nd) ?_⟩
      exact List.mem_map.mpr ⟨_, lk_some e, rfl⟩
  obtain ⟨l, e1, e2⟩ := key _ h1
  obtain ⟨r, e3, e4⟩ := key _ h2
  refine ⟨l, r, ?_, e1, e3⟩
  rw [run_at (i := 63) inferInstance]
  have a1 := r_steps_of (tab := tab) k hfd h.nd h.sl h.fl h.el
  have i1 := in_st (sidxD 0 fs) (u, v)
  have i2 := in_st (sidxD 0 fs) (v, u)
  rw [sidxD_fst, decide_eq_true h1] at i1
  rw [sidxD_fst, decide_eq_true h2] at i2
  have x1 := ix_st (sidxD 0 fs) (u, v)
  have x2 := ix_st (sidxD 0 fs) (v, u)
  rw [e2] at x1
  rw [e4] at x2
  have s1 : D.tup [nD u, nD v] = sD (u, v) := rfl
  have s2 : D.tup [nD v, nD u] = sD (v, u) := rfl
  simp [f_wings, hd, a1, s1, s2, i1, i2, x1, x2]
theorem r_wings_no [Has tab 15 f_steps_of] [Has tab 63 f_wings] (k : Nat) {dd fd : D} {fs : List (List Nat)} (hd : idxD dd (.int 1) = some fd) (hfd : Fc fd fs) (h : Fok fs) {a b : Int}
    (hn : (a < 0 ∨ b < 0) ∨ ∃ u v : Nat, a = u ∧ b = v ∧ ((u, v) ∉ allSteps fs ∨ (v, u) ∉ allSteps fs)) : run tab (k + 2) 63 [.val dd, .val (.int a), .val (.int b)] = .exc .NoEdge [] := by
  rw [run_at (i := 63) inferInstance]
  have a1 := r_steps_of (tab := tab) k hfd h.nd h.sl h.fl h.el
  rcases hn with hn | ⟨u, v, rfl, rfl, hn⟩
  · have i1 := in_neg (sidxD 0 fs) hn
    simp [f_wings, hd, a1, i1]
  · have i1 := in_st (sidxD 0 fs) (u, v)
    have i2 := in_st (sidxD 0 fs) (v, u)
    rw [sidxD_fst] at i1 i2
    have s1 : D.tup [.int (u : Int), .int (v : Int)] = sD (u, v) := rfl
    have s2 : D.tup [.int (v : Int), .int (u : Int)] = sD (v, u) := rfl
    rcases hn with hn | hn
    · rw [decide_eq_false hn] at i1
      simp [f_wings, hd, a1, s1, i1]
    · rw [decide_eq_false hn] at i2
      cases hb : decide ((u, v) ∈ allSteps fs) with
      | true =>
        rw [hb] at i1
        simp [f_wings, hd, a1, s1, s2, i1, i2]
      | false =>
        rw [hb] at i1
        simp [f_wings, hd, a1, s1, i1]
/-! ### _law_sides -/
theorem sides_in (call : CallT) {f : List Nat} {d0 : D} {v : Int} {s3 s4 s6 : Slot} (hix : idxD d0 (.int v) = some (rD f)) : ∀ (rest : List (Nat × Nat)) (k0 : Nat) (m : List ((Nat × Nat) × D)) (s5 : Slot), (steps f).drop k0 = rest → (m.map (·.1) ++ rest).Nodup → m.length + rest.length ≤ 4096 →
    ∃ s5', forS call [] false [5] b_law_sides_3 (idxs k0 rest.length) [.val d0, .own (stD m), .val (.int v), s3, s4, s5, s6] = .next [.val d0, .own (stD (m ++ withV rest (.int v))), .val (.int v), s3, s4, s5', s6]
  | [], k0, m, s5, _, _, _ => ⟨s5, by show SR.next _ = _; unfold withV; rw [List.map_nil, List.append_nil]⟩
  | s :: rest, k0, m, s5, hd, hn, hl => by
    obtain ⟨hk, e1, e2⟩ := drop_get hd
    obtain ⟨g1, g2⟩ := step_at hk
    rw [e1] at g1 g2
    obtain ⟨n1, n2⟩ := nodup_mid hn
    have hl' : m.length + (rest.length + 1) ≤ 4096 := hl
    obtain ⟨s5', ih⟩ := sides_in call (s3 := s3) (s4 := s4) (s6 := s6) hix rest (k0 + 1) (m ++ [(s, .int v)]) (.val (nD k0)) e2 (by rw [List.map_append]; exact n2) (by simp; omega)
    refine ⟨s5', ?_⟩
    have ps := put_st (v := .int v) n1 (by omega : m.length < 4096)
    have e3 : m ++ [(s, .int v)] ++ withV rest (.int v) = m ++ withV (s :: rest) (.int v) := by unfold withV; simp
    rw [e3] at ih
    rw [List.length_cons, idxs_succ, forS_cons, ← ih]
    have nk : nD k0 = .int (k0 : Int) := rfl
    have sk : D.tup [nD s.1, nD s.2] = sD s := rfl
    rw [nk]
    simp [b_law_sides_3, hix, g1, g2, sk, ps]
theorem sides_out (call : CallT) {d0 : D} {gs : List (List Nat)} (hg : Fc d0 gs) {s3 s4 s6 : Slot} : ∀ (fs : List (List Nat)) (i0 : Nat) (m : List ((Nat × Nat) × D)) (s2 s5 : Slot), gs.drop i0 = fs → (m.map (·.1) ++ allSteps fs).Nodup → m.length + (allSteps fs).length ≤ 4096 → (∀ f ∈ fs, f.length < 4000) →
    ∃ s2' s5', forS call [] false [2] b_law_sides_2 (idxs i0 fs.length) [.val d0, .own (stD m), s2, s3, s4, s5, s6] = .next [.val d0, .own (stD (m ++ sidxD i0 fs)), s2', s3, s4, s5', s6]
  | [], i0, m, s2, s5, _, _, _, _ => ⟨s2, s5, by show SR.next _ = _; unfold sidxD sidx; rw [List.map_nil, List.append_nil]⟩
  | f :: fs, i0, m, s2, s5, hd, hn, hl, hf => by
    obtain ⟨hk, e1, e2⟩ := drop_get hd
    have hix := hg.ix i0 hk
    rw [e1] at hix
    rw [allSteps_cons] at hn hl
    rw [List.length_append] at hl
    have n1 : (m.map (·.1) ++ steps f).Nodup := (List.nodup_append.mp (by rw [← List.append_assoc] at hn; exact hn)).1
    obtain ⟨t5, hin⟩ := sides_in call (f := f) (d0 := d0) (v := (i0 : Int)) (s3 := s3) (s4 := s4) (s6 := s6) hix (steps f) 0 m s5 rfl n1 (by omega)
    obtain ⟨s2', s5', ih⟩ := sides_out call hg (s3 := s3) (s4 := s4) (s6 := s6) fs (i0 + 1) (m ++ withV (steps f) (nD i0)) (.val (nD i0)) t5 e2 (by rw [List.map_append, withV_fst, List.append_assoc]; exact hn) (by rw [List.length_append]; unfold withV; rw [List.length_map]; omega) fun g hg => hf g (List.mem_cons_of_mem _ hg)
    refine ⟨s2', s5', ?_⟩
    rw [List.append_assoc, ← sidxD_cons] at ih
    rw [steps_length] at hin
    have hr := rng_len f.length (by have := hf f List.mem_cons_self; omega)
    have nk : nD i0 = .int (i0 : Int) := rfl
    rw [List.length_cons, idxs_succ, forS_cons, ← ih, nk]
    simp [b_law_sides_2, hix, hr, hin]
def fidx (fs : List (List Nat)) (s : Nat × Nat) : Nat := (lk (sidx 0 fs) s).getD 0
def rowOf (fs : List (List Nat)) (s : Nat × Nat) : List Nat := [s.1, s.2, fidx fs s, fidx fs (s.2, s.1)]
def rowsL (fs : List (List Nat)) : List (List Nat) := (innerE fs).map (rowOf fs)
theorem fidx_ok {fs : List (List Nat)} (hn : (allSteps fs).Nodup) {s : Nat × Nat} (hs : s ∈ allSteps fs) : lk (sidxD 0 fs) s = some (nD (fidx fs s)) ∧ ∃ f, fs[fidx fs s]? = some f ∧ s ∈ steps f := by
  cases e : lk (sidx 0 fs) s with
  | none => exact absurd (by rw [sidx_fst]; exact hs) (lk_none.mp e)
  | some l =>
    have hm := lk_some e
    have hf : fidx fs s = l := by unfold fidx; rw [e]; rfl
    rw [hf]
    refine ⟨lk_of (by rw [sidxD_fst]; exact hn) (List.mem_map.mpr ⟨_, hm, rfl⟩), ?_⟩
    obtain ⟨j, f, h1, h2, h3⟩ := sidx_mem.mp hm
    have : l = j := by omega
    rw [this]
    exact ⟨f, h2, h3⟩
theorem sides_rows (call : CallT) {d0 : D} {fs : List (List Nat)} (hn : (allSteps fs).Nodup) {s2 s5 : Slot} : ∀ (l : List (Nat × Nat)) (rs : List (List Nat)) (s4 s6 : Slot), (∀ s ∈ l, s ∈ allSteps fs) → rs.length + l.length ≤ 4000 →
    ∃ s4' s6', forS call [] false [4] b_law_sides_1 (l.map sD) [.val d0, .own (stD (sidxD 0 fs)), s2, .own (fcsL rs), s4, s5, s6] = .next [.val d0, .own (stD (sidxD 0 fs)), s2, .own (fcsL (rs ++ (l.filter (inn (allSteps fs))).map (rowOf fs))), s4', s5, s6']
  | [], rs, s4, s6, _, _ => ⟨s4, s6, by show SR.next _ = _; rw [List.filter_nil, List.map_nil, List.append_nil]⟩
  | s :: l, rs, s4, s6, hm, hl => by
    have hl' : rs.length + (l.length + 1) ≤ 4000 := hl
    have hs := hm s List.mem_cons_self
    have hi := in_st (sidxD 0 fs) (s.2, s.1)
    rw [sidxD_fst] at hi
    have sk : D.tup [nD s.2, nD s.1] = sD (s.2, s.1) := rfl
    have c1 : cmpD .lt (nD s.1) (nD s.2) = some (decide (s.1 < s.2)) := by
      show some (decide ((s.1 : Int) < (s.2 : Int))) = _
      congr 1
      rw [Bool.eq_iff_iff, decide_eq_true_eq, decide_eq_true_eq]; omega
    cases hb : inn (allSteps fs) s with
    | true =>
      obtain ⟨b1, b2⟩ := Bool.and_eq_true_iff.mp hb
      have hback := of_decide_eq_true b2
      rw [b2] at hi
      rw [b1] at c1
      have x1 := ix_st (sidxD 0 fs) s
      have x2 := ix_st (sidxD 0 fs) (s.2, s.1)
      rw [(fidx_ok hn hs).1] at x1
      rw [(fidx_ok hn hback).1] at x2
      have ad : binD .add (sD s) (.tup [nD (fidx fs s), nD (fidx fs (s.2, s.1))]) = some (rD (rowOf fs s)) := rfl
      have ap : appD (fcsL rs) (rD (rowOf fs s)) = some (fcsL (rs ++ [rowOf fs s])) := by
        show (if (rs.map rD).length < 4096 then some (D.lst (rs.map rD ++ [rD (rowOf fs s)])) else none) = _
        rw [List.length_map, if_pos (by omega)]
        unfold fcsL
        rw [List.map_append]; rfl
      obtain ⟨s4', s6', ih⟩ := sides_rows call (d0 := d0) hn (s2 := s2) (s5 := s5) l (rs ++ [rowOf fs s]) (.val (sD s)) (.val (sD (s.2, s.1))) (fun x hx => hm x (List.mem_cons_of_mem _ hx)) (by simp; omega)
      refine ⟨s4', s6', ?_⟩
      rw [List.filter_cons_of_pos hb, List.map_cons]
      have e3 : rs ++ [rowOf fs s] ++ (l.filter (inn (allSteps fs))).map (rowOf fs) = rs ++ rowOf fs s :: (l.filter (inn (allSteps fs))).map (rowOf fs) := by simp
      rw [e3] at ih
      rw [List.map_cons, forS_cons, ← ih]
      have fl : ∀ x, fcsL x = D.lst (x.map rD) := fun _ => rfl
      rw [fl rs] at ap ⊢
      simp [b_law_sides_1, sk, c1, hi, x1, x2, ad, ap]
    | false =>
      obtain ⟨s4', s6', ih⟩ := sides_rows call (d0 := d0) hn (s2 := s2) (s5 := s5) l rs (.val (sD s)) (.val (sD (s.2, s.1))) (fun x hx => hm x (List.mem_cons_of_mem _ hx)) (by omega)
      refine ⟨s4', s6', ?_⟩
      rw [List.filter_cons_of_neg (by rw [hb]; decide)]
      rw [List.map_cons, forS_cons, ← ih]
      rcases Bool.and_eq_false_iff.mp hb with b | b
      · rw [b] at c1
        simp [b_law_sides_1, sk, c1]
      · rw [b] at hi
        cases hb1 : decide (s.1 < s.2) with
        | true =>
          rw [hb1] at c1
          simp [b_law_sides_1, sk, c1, hi]
        | false =>
          rw [hb1] at c1
          simp [b_law_sides_1, sk, c1]
theorem r_sides [Has tab 52 f_law_sides] (k : Nat) {fd : D} {fs : List (List Nat)} (hfd : Fc fd fs) (h : Fok fs) : run tab (k + 1) 52 [.val fd] = .ret true (fcsL (rowsL fs)) [] := by
  rw [run_at (i := 52) inferInstance]
  have h4 := h.sl
  have h5 := h.fl
  obtain ⟨t2, t5, h1⟩ := sides_out (run tab k) hfd (s3 := .emp) (s4 := .emp) (s6 := .emp) fs 0 [] .emp .emp rfl (by simpa using h.nd) (by simp; omega) h.el
  rw [List.nil_append] at h1
  have e8 : stD [] = .dt [] := rfl
  rw [e8] at h1
  have l1 := list_st (sidxD 0 fs)
  rw [sidxD_fst] at l1
  have ss := sort_steps (allSteps fs)
  obtain ⟨t4, t6, h2⟩ := sides_rows (run tab k) (d0 := fd) h.nd (s2 := t2) (s5 := t5) (sortS (allSteps fs)) [] .emp .emp (fun s hs => (sortS_perm _).mem_iff.mp hs) (by rw [(sortS_perm _).length_eq]; simpa using h4)
  rw [List.nil_append, sortS_filter] at h2
  have e9 : fcsL [] = .lst [] := rfl
  rw [e9] at h2
  have e10 : fcsL ((sortS ((allSteps fs).filter (inn (allSteps fs)))).map (rowOf fs)) = fcsL (rowsL fs) := rfl
  rw [e10] at h2
  have hr := rng_len fs.length (by omega)
  generalize (allSteps fs).map sD = A at l1 ss
  generalize (sortS (allSteps fs)).map sD = B at ss h2
  simp [f_law_sides, hfd.ln, hr, h1, l1, ss, h2]
end
end Vm

/-! ThL: drawings that are built: poked, cut, put together. -/
namespace Vm
open PySem L2 Geo
theorem nodup_le : ∀ (n : Nat) (l : List Nat), l.Nodup → (∀ x ∈ l, x < n) → l.length ≤ n
  | 0, l, _, h => by
    cases l with
    | nil => exact Nat.le_refl _
    | cons a r => exact absurd (h a List.mem_cons_self) (Nat.not_lt_zero _)
  | n + 1, l, hn, h => by
    have h1 : (l.erase n).length ≤ n := nodup_le n (l.erase n) (hn.erase n) fun x hx => by
      have := (List.Nodup.mem_erase_iff hn).mp hx
      have := h x this.2
      omega
    rw [List.length_erase] at h1
    split at h1 <;> omega
theorem allSteps_le {n : Nat} : ∀ {fs : List (List Nat)}, (∀ f ∈ fs, f.length ≤ n) → (allSteps fs).length ≤ fs.length * n
  | [], _ => Nat.zero_le _
  | f :: fs, h => by
    rw [allSteps_cons, List.length_append, steps_length, List.length_cons, Nat.succ_mul]
    have := h f List.mem_cons_self
    have := allSteps_le fun g hg => h g (List.mem_cons_of_mem _ hg)
    omega
/-- a drawing that is built -/
structure Blt (pts : List Pt) (fs : List (List Nat)) (rim : List Nat) : Prop where
  draw : Draw (pf pts) fs rim
  lt : ∀ f ∈ fs, ∀ x ∈ f, x < pts.length
  np : pts.length ≤ 40
  nf : fs.length ≤ 60
  cov : ∀ x, x < pts.length → ∃ f ∈ fs, x ∈ f
theorem Blt.flen {pts : List Pt} {fs : List (List Nat)} {rim : List Nat} (h : Blt pts fs rim) : ∀ f ∈ fs, f.length ≤ 40 := fun f hf => Nat.le_trans (nodup_le _ f (h.draw.bay f hf).nd (h.lt f hf)) h.np
theorem Blt.fok {pts : List Pt} {fs : List (List Nat)} {rim : List Nat} (h : Blt pts fs rim) : Fok fs where
  nd := h.draw.nodup
  sl := by
    have := allSteps_le h.flen
    have := Nat.mul_le_mul_right 40 h.nf
    omega
  fl := by have := h.nf; omega
  el := fun f hf => by have := h.flen f hf; omega
theorem pf_app {pts : List Pt} {q : Pt} {i : Nat} (h : i < pts.length) : pf (pts ++ [q]) i = pf pts i := by
  unfold pf
  rw [List.getElem?_append_left h]
theorem pf_new (pts : List Pt) (q : Pt) : pf (pts ++ [q]) pts.length = q := by
  unfold pf
  rw [List.getElem?_append_right (Nat.le_refl _), Nat.sub_self]; rfl
theorem take_mid {α : Type} {l : List α} {k : Nat} (h : k < l.length) : l.Perm (l[k] :: (l.take k ++ l.drop (k + 1))) := by
  have e : l = l.take k ++ l[k] :: l.drop (k + 1) := by rw [← List.drop_eq_getElem_cons h, List.take_append_drop]
  exact (List.Perm.of_eq e).trans List.perm_middle
theorem take_put {α : Type} (a b m : List α) : (a ++ m ++ b).Perm (m ++ (a ++ b)) := by
  rw [← List.append_assoc]
  exact List.perm_append_comm.append_right b
theorem Blt.poke {pts : List Pt} {fs : List (List Nat)} {rim : List Nat} (h : Blt pts fs rim) {k : Nat} (hk : k < fs.length) {q : Pt} (hq : Inn (pf pts) fs[k] q) (h1 : pts.length < 40) (h2 : fs.length + fs[k].length < 62) : Blt (pts ++ [q]) (fs.take k ++ tris fs[k] pts.length ++ fs.drop (k + 1)) rim := by
  have hm : fs[k] ∈ fs := List.getElem_mem hk
  have hd : Draw (pf (pts ++ [q])) fs rim := h.draw.congr fun f hf x hx => pf_app (h.lt f hf x hx)
  have hd2 := hd.perm (take_mid hk)
  have hq2 : Inn (pf (pts ++ [q])) fs[k] (pf (pts ++ [q]) pts.length) := fun u v hs => by
    have := steps_mem hs
    rw [pf_new, pf_app (h.lt _ hm _ this.1), pf_app (h.lt _ hm _ this.2)]
    exact hq u v hs
  have nm : ∀ g ∈ fs[k] :: (fs.take k ++ fs.drop (k + 1)), pts.length ∉ g := fun g hg hx => by
    have := h.lt g ((take_mid hk).mem_iff.mpr hg) _ hx
    omega
  have hd3 := (hd2.poke hq2 nm).perm (take_put _ _ _).symm
  have mem : ∀ g ∈ fs.take k ++ tris fs[k] pts.length ++ fs.drop (k + 1), g ∈ fs ∨ g ∈ tris fs[k] pts.length := fun g hg => by
    have := (take_put _ _ _).mem_iff.mp hg
    rcases List.mem_append.mp this with z | z
    · exact .inr z
    · exact .inl ((take_mid hk).mem_iff.mpr (List.mem_cons_of_mem _ z))
  refine ⟨hd3, fun g hg x hx => ?_, by simp; omega, ?_, fun x hx => ?_⟩
  · rw [List.length_append]
    rcases mem g hg with z | z
    · have := h.lt g z x hx
      simp; omega
    · obtain ⟨s, hs, rfl⟩ := List.mem_map.mp z
      have hss := steps_mem (show (s.1, s.2) ∈ steps fs[k] from hs)
      have a1 := h.lt _ hm _ hss.1
      have a2 := h.lt _ hm _ hss.2
      simp at hx ⊢
      omega
  · have : (tris fs[k] pts.length).length = fs[k].length := by unfold tris; rw [List.length_map, steps_length]
    rw [List.length_append, List.length_append, this, List.length_take, List.length_drop]
    omega
  · rw [List.length_append] at hx
    have hx' : x < pts.length + 1 := hx
    have tri_of : ∀ y ∈ fs[k], ∃ g ∈ tris fs[k] pts.length, y ∈ g ∧ pts.length ∈ g := fun y hy => by
      have : y ∈ (steps fs[k]).map (·.2) := by rw [steps_snd]; exact hy
      obtain ⟨s, hs, e⟩ := List.mem_map.mp this
      exact ⟨_, List.mem_map.mpr ⟨s, hs, rfl⟩, by simp [← e], by simp⟩
    have put : ∀ g, g ∈ tris fs[k] pts.length ∨ g ∈ fs.take k ++ fs.drop (k + 1) → g ∈ fs.take k ++ tris fs[k] pts.length ++ fs.drop (k + 1) := fun g hg => (take_put _ _ _).mem_iff.mpr (List.mem_append.mpr hg)
    by_cases hx2 : x < pts.length
    · obtain ⟨f, hf, hxf⟩ := h.cov x hx2
      rcases List.mem_cons.mp ((take_mid hk).mem_iff.mp hf) with e | z
      · rw [e] at hxf
        obtain ⟨g, g1, g2, _⟩ := tri_of x hxf
        exact ⟨g, put g (.inl g1), g2⟩
      · exact ⟨f, put f (.inr z), hxf⟩
    · have hb := (h.draw.bay _ hm).len
      obtain ⟨y, r, e⟩ := List.exists_cons_of_length_pos (show 0 < fs[k].length by omega)
      obtain ⟨g, g1, _, g3⟩ := tri_of y (by rw [e]; exact List.mem_cons_self)
      have : x = pts.length := by omega
      exact ⟨g, put g (.inl g1), this ▸ g3⟩
section
variable {tab : Nat → Option Fn}
/-! ### _law_joined -/
theorem rcv_r {f : List Nat} (h : 2 < f.length) : rcv .index (rD f) = true := by
  show decide (2 < (f.map nD).length) = true
  rw [List.length_map]; exact decide_eq_true h
theorem slc_r_fromN (l : List Nat) (k : Nat) : slcD (rD l) (some ((k : Nat) : Int)) none = some (rD (l.drop k)) := slc_r_from l k
theorem rotAt_add {f : List Nat} {x : Nat} (hx : x ∈ f) (hl : f.length ≤ 4000) : binD .add (rD (f.drop (f.idxOf x))) (rD (f.take (f.idxOf x))) = some (rD (rotAt f x)) := by
  have hi := List.idxOf_lt_length_of_mem hx
  refine add_r ?_ (by rw [List.length_drop, List.length_take]; omega)
  intro z
  have := congrArg List.length z
  rw [List.length_drop] at this
  have : f.length - f.idxOf x = 0 := this
  omega
theorem r_joined [Has tab 53 f_law_joined] (k : Nat) {fd : D} {fs : List (List Nat)} (hfd : Fc fd fs) {u v l r : Nat} (hl : l < fs.length) (hr : r < fs.length) (hv : v ∈ fs[l]) (hu : u ∈ fs[r]) (h1 : 2 < fs[l].length) (h2 : 2 < fs[r].length) (h3 : fs[l].length ≤ 4000) (h4 : fs[r].length ≤ 4000) :
    run tab (k + 1) 53 [.val (nD u), .val (nD v), .val fd, .val (nD l), .val (nD r)] = .ret false (rD (rotAt fs[l] v ++ ((rotAt fs[r] u).drop 1).dropLast)) [] := by
  rw [run_at (i := 53) inferInstance]
  have i1 := hfd.ix l hl
  have i2 := hfd.ix r hr
  have nl : ∀ n, nD n = .int (n : Int) := fun _ => rfl
  have x1 : mthD .index (rD fs[l]) [nD v] = some (nD (fs[l].idxOf v)) := idx_of hv h1
  have x2 : mthD .index (rD fs[r]) [nD u] = some (nD (fs[r].idxOf u)) := idx_of hu h2
  have a1 := rotAt_add hv h3
  have a2 := rotAt_add hu h4
  have f1 := slc_r_from fs[l] (fs[l].idxOf v)
  have t1 := slc_r_to fs[l] (fs[l].idxOf v)
  have f2 := slc_r_from fs[r] (fs[r].idxOf u)
  have t2 := slc_r_to fs[r] (fs[r].idxOf u)
  have m2 := slc_r_mid (rotAt fs[r] u)
  have lenl := rotAt_len fs[l] v
  have lenr := rotAt_len fs[r] u
  have a3 := add_r (l := rotAt fs[l] v) (m := ((rotAt fs[r] u).drop 1).dropLast) (by intro z; rw [z] at lenl; simp at lenl; omega) (by rw [List.length_dropLast, List.length_drop]; omega)
  generalize ((rotAt fs[r] u).drop 1).dropLast = X at m2 a3 ⊢
  generalize hA : rotAt fs[l] v = A at *
  generalize hB : rotAt fs[r] u = B at *
  simp only [nl] at x1 x2
  simp [f_law_joined, nl, i1, i2, rcv_r h1, rcv_r h2, x1, x2, f1, t1, f2, t2, a1, a2, m2, a3]
end
end Vm

/-! ThM: faces put together, cut. -/
namespace Vm
open PySem L2 Geo
theorem in_two (k l r : Nat) : inD (nD k) (.tup [nD l, nD r]) = some (decide (k = l) || decide (k = r)) := by
  show some (([(l : Int), (r : Int)]).any (· == (k : Int))) = _
  congr 1
  simp only [List.any_cons, List.any_nil, Bool.or_false]
  rw [Bool.eq_iff_iff]
  simp
  omega
def restL (fs : List (List Nat)) (l r : Nat) : List (List Nat) := ((List.range fs.length).filter fun k => !(decide (k = l) || decide (k = r))).map fun k => fs[k]?.getD []
theorem map_range_get (fs : List (List Nat)) : (List.range fs.length).map (fun k => fs[k]?.getD []) = fs := by
  refine List.ext_getElem (by simp) fun i h1 h2 => ?_
  rw [List.getElem_map, List.getElem_range, List.getElem?_eq_getElem h2]; rfl
theorem restL_perm {fs : List (List Nat)} {l r : Nat} (hl : l < fs.length) (hr : r < fs.length) (hne : l ≠ r) : fs.Perm (fs[l] :: fs[r] :: restL fs l r) := by
  have p : (List.range fs.length).Perm (l :: r :: (List.range fs.length).filter fun k => !(decide (k = l) || decide (k = r))) := by
    refine (List.perm_ext_iff_of_nodup List.nodup_range ?_).mpr fun x => ?_
    · refine List.nodup_cons.mpr ⟨fun m => ?_, List.nodup_cons.mpr ⟨fun m => ?_, (List.filter_sublist).nodup List.nodup_range⟩⟩
      · rcases List.mem_cons.mp m with e | m
        · exact hne e
        · have := (List.mem_filter.mp m).2; simp at this
      · have := (List.mem_filter.mp m).2; simp at this
    · simp only [List.mem_cons, List.mem_filter, List.mem_range, Bool.not_eq_true', Bool.or_eq_false_iff, decide_eq_false_iff_not]
      constructor
      · intro h
        by_cases a : x = l
        · exact .inl a
        · by_cases b : x = r
          · exact .inr (.inl b)
          · exact .inr (.inr ⟨h, a, b⟩)
      · rintro (e | e | h)
        · omega
        · omega
        · exact h.1
  have q := p.map fun k => fs[k]?.getD []
  rw [map_range_get] at q
  simp only [List.map_cons, List.getElem?_eq_getElem hl, List.getElem?_eq_getElem hr, Option.getD_some] at q
  exact q
theorem two_faces {P : Nat → Pt} {f : List Nat} (h : Bay P f) {u v : Nat} (h1 : (u, v) ∈ steps f) (h2 : (v, u) ∈ steps f) : False := by
  obtain ⟨n, hn, p⟩ := h.third h1
  have := h.le h2 hn
  rw [ori_swap] at this; grind
theorem get_eq {α : Type} {l : List α} {i : Nat} {a : α} (h : l[i]? = some a) : ∃ hi : i < l.length, l[i] = a := List.getElem?_eq_some_iff.mp h
theorem Blt.join {pts : List Pt} {fs : List (List Nat)} {rim : List Nat} (h : Blt pts fs rim) {l r u v : Nat} (hl : l < fs.length) (hr : r < fs.length) (h1 : (u, v) ∈ steps fs[l]) (h2 : (v, u) ∈ steps fs[r]) (hb : Bay (pf pts) (rotAt fs[l] v ++ ((rotAt fs[r] u).drop 1).dropLast)) :
    Blt pts ([rotAt fs[l] v ++ ((rotAt fs[r] u).drop 1).dropLast] ++ restL fs l r) rim := by
  have b1 := h.draw.bay _ (List.getElem_mem hl)
  have b2 := h.draw.bay _ (List.getElem_mem hr)
  have hne : l ≠ r := fun e => by subst e; exact two_faces b1 h1 h2
  obtain ⟨r1, e1⟩ := rotAt_step b1.nd (by have := b1.len; omega) h1
  obtain ⟨r2, e2⟩ := rotAt_step b2.nd (by have := b2.len; omega) h2
  have er : rotAt fs[l] v ++ ((rotAt fs[r] u).drop 1).dropLast = v :: (r1 ++ u :: r2) := by
    rw [e1, e2]
    simp [List.dropLast_concat]
  have rot1 := rotAt_rot fs[l] v
  have rot2 := rotAt_rot fs[r] u
  have pm := restL_perm hl hr hne
  rw [er] at hb ⊢
  have d1 := h.draw.perm pm
  rw [e1] at rot1
  rw [e2] at rot2
  have rl : ∀ fs : List (List Nat), RotL fs fs := fun fs => by
    induction fs with
    | nil => exact .nil
    | cons f fs ih => exact .cons (Rot.refl f) ih
  have d2 := d1.rotL (.cons rot1 (.cons rot2 (rl _)))
  have d3 := d2.join hb
  have mem1 : ∀ x, x ∈ v :: (r1 ++ u :: r2) ↔ x ∈ fs[l] ∨ x ∈ fs[r] := fun x => by
    rw [← rot1.mem, ← rot2.mem]
    simp
    constructor
    · rintro (h | h | h | h) <;> simp [h]
    · rintro ((h | h | h) | h | h | h) <;> simp [h]
  refine ⟨d3, fun f hf x hx => ?_, h.np, ?_, fun x hx => ?_⟩
  · rcases List.mem_cons.mp hf with rfl | hf
    · rcases (mem1 x).mp hx with z | z
      · exact h.lt _ (List.getElem_mem hl) x z
      · exact h.lt _ (List.getElem_mem hr) x z
    · exact h.lt f (pm.mem_iff.mpr (List.mem_cons_of_mem _ (List.mem_cons_of_mem _ hf))) x hx
  · have := pm.length_eq
    have := h.nf
    simp at *; omega
  · obtain ⟨f, hf, hxf⟩ := h.cov x hx
    rcases List.mem_cons.mp (pm.mem_iff.mp hf) with e | z
    · exact ⟨_, List.mem_cons_self, (mem1 x).mpr (.inl (e ▸ hxf))⟩
    · rcases List.mem_cons.mp z with e | z
      · exact ⟨_, List.mem_cons_self, (mem1 x).mpr (.inr (e ▸ hxf))⟩
      · exact ⟨f, List.mem_cons_of_mem _ z, hxf⟩
/-- points as data, of small numbers -/
theorem ptd_lst {pts : List Pt} (h : ∀ c, c < pts.length → Sp 490 (pf pts c)) : PtD (ptsL pts) (pf pts) pts.length := ⟨fun c hc => (ix_pf hc).1, h⟩
theorem ptd_tup {pts : List Pt} (h : ∀ c, c < pts.length → Sp 490 (pf pts c)) : PtD (ptsT pts) (pf pts) pts.length := ⟨fun c hc => (ix_pf hc).2, h⟩
section
variable {tab : Nat → Option Fn}
theorem ix_rows {rs : List (List Nat)} {i : Nat} (h : i < rs.length) : idxD (fcsL rs) (.int (i : Nat)) = some (rD rs[i]) := (ix_fcs h).1
theorem r_merged [Has tab 38 f_law_draw] [Has tab 39 f_law_common] [Has tab 40 f_law_low] [Has tab 43 f_law_times] [Has tab 46 f_law_less] [Has tab 47 f_law_step] [Has tab 54 f_law_cross] [Has tab 55 f_law_hand] [Has tab 56 f_law_bayless] [Has tab 52 f_law_sides] [Has tab 53 f_law_joined] [Has tab 72 f_law_merged] (k : Nat)
    {pts : List Pt} {fs : List (List Nat)} {rim : List Nat} (h : Blt pts fs rim) (hp : PtD (ptsL pts) (pf pts) pts.length) {s : Int × Int} (hs : Dr s) :
    ∃ (fr : Bool) (fs' : List (List Nat)) (s' : Int × Int), run tab (k + 7) 72 [.val (ptsL pts), .val (fcsL fs), .own (dD s)] = .ret fr (fcsL fs') [dD s'] ∧ Dr s' ∧ Blt pts fs' rim := by
  have hok := h.fok
  have a1 := r_sides (tab := tab) (k + 5) (Fc.lst fs) hok
  by_cases h0 : (rowsL fs).length = 0
  · refine ⟨false, fs, s, ?_, hs, h⟩
    rw [run_at (i := 72) inferInstance]
    have e0 : rowsL fs = [] := List.length_eq_zero_iff.mp h0
    have b0 : fcsL (rowsL fs) = .lst [] := by rw [e0]; rfl
    rw [b0] at a1
    simp [f_law_merged, a1]
  · have hin : ∀ s ∈ innerE fs, s ∈ allSteps fs ∧ (s.2, s.1) ∈ allSteps fs := fun s hs => by
      have := List.mem_filter.mp ((sortS_perm _).mem_iff.mp hs)
      refine ⟨this.1, ?_⟩
      obtain ⟨_, b⟩ := Bool.and_eq_true_iff.mp this.2
      exact of_decide_eq_true b
    have hrl : (rowsL fs).length ≤ 4000 := by
      unfold rowsL innerE
      rw [List.length_map, (sortS_perm _).length_eq]
      exact Nat.le_trans (List.length_filter_le ..) hok.sl
    obtain ⟨v0, s1, d1, hv, hs1⟩ := r_draw (tab := tab) hs ((rowsL fs).length : Nat) (m := (rowsL fs).length) rfl (by omega) (by omega) (k + 5)
    have x0 := ix_rows hv
    have hE : v0 < (innerE fs).length := by unfold rowsL at hv; rwa [List.length_map] at hv
    have erow : (rowsL fs)[v0] = rowOf fs ((innerE fs)[v0]) := List.getElem_map (rowOf fs)
    rw [erow] at x0
    obtain ⟨m1, m2⟩ := hin _ (List.getElem_mem hE)
    generalize (innerE fs)[v0] = st at x0 m1 m2
    obtain ⟨u, v⟩ := st
    obtain ⟨_, f, g1, g2⟩ := fidx_ok hok.nd m1
    obtain ⟨_, g, g3, g4⟩ := fidx_ok hok.nd m2
    obtain ⟨hl, e1⟩ := get_eq g1
    obtain ⟨hr, e2⟩ := get_eq g3
    have ro : rowOf fs (u, v) = [u, v, fidx fs (u, v), fidx fs (v, u)] := rfl
    rw [ro] at x0
    generalize fidx fs (u, v) = l at *
    generalize fidx fs (v, u) = r at *
    subst e1
    subst e2
    have b1 := h.draw.bay _ (List.getElem_mem hl)
    have b2 := h.draw.bay _ (List.getElem_mem hr)
    have l1 := h.flen _ (List.getElem_mem hl)
    have l2 := h.flen _ (List.getElem_mem hr)
    have j1 := r_joined (tab := tab) (k + 5) (Fc.lst fs) hl hr (steps_mem g2).2 (steps_mem g4).2 b1.len b2.len (by omega) (by omega)
    have hring : ∀ c ∈ rotAt fs[l] v ++ ((rotAt fs[r] u).drop 1).dropLast, c < pts.length := fun c hc => by
      rcases List.mem_append.mp hc with z | z
      · exact h.lt _ (List.getElem_mem hl) c ((rotAt_rot _ _).mem.mp z)
      · exact h.lt _ (List.getElem_mem hr) c ((rotAt_rot _ _).mem.mp (List.mem_of_mem_drop (List.dropLast_subset _ z)))
    have hrlen : (rotAt fs[l] v ++ ((rotAt fs[r] u).drop 1).dropLast).length ≤ 4000 := by
      rw [List.length_append, rotAt_len, List.length_dropLast, List.length_drop, rotAt_len]; omega
    have by1 := r_bayless (tab := tab) k hp hring hrlen
    have hrow : rD [u, v, l, r] = .tup [nD u, nD v, nD l, nD r] := rfl
    have hnz : ¬ ((rowsL fs).length : Int) = 0 := by omega
    have hnz' : ¬ (rowsL fs) = [] := fun e => h0 (by rw [e]; rfl)
    have jn := h.join hl hr g2 g4
    generalize rotAt fs[l] v ++ ((rotAt fs[r] u).drop 1).dropLast = ring at *
    have hle : ∀ x, fcsL x = D.lst (x.map rD) := fun _ => rfl
    have lrow := len_fcsL (rowsL fs)
    generalize fcsL (rowsL fs) = rows at a1 x0 lrow
    cases hb : bayB (pf pts) ring with
    | false =>
      refine ⟨false, fs, s1, ?_, hs1, h⟩
      rw [run_at (i := 72) inferInstance]
      rw [hb] at by1
      simp [f_law_merged, a1, lrow, hnz', d1, x0, hrow, j1, by1]
    | true =>
      refine ⟨true, [ring] ++ restL fs l r, s1, ?_, hs1, jn (bayB_iff.mp hb)⟩
      rw [run_at (i := 72) inferInstance]
      rw [hb] at by1
      have hrg := rng_len fs.length (by have := h.nf; omega)
      have hc := comp_same (call := run tab (k + 6)) (refs := [2]) (e := [.val (ptsL pts), .val (fcsL fs), .own (dD s1), .own rows, .val (rD ring), .emp, .val (nD u), .val (nD v), .val (nD l), .val (nD r), .emp]) (elt := e_law_merged_1) (tp := false) (ts := [10]) (src := .rng (.cons (.bi .len (.cons (.var 1) .nil)) .nil)) (cond := t_law_merged_1)
        (xs := List.range fs.length) (enc := nD) (fun i => if (!(decide (i = l) || decide (i = r))) = true then some (rD (fs[i]?.getD [])) else none) (by simp [hrg, idxs_range]) rfl (by rw [List.length_range]; have := h.nf; omega) (fun i hi => by
          have hi := List.mem_range.mp hi
          refine ⟨_, rfl, rfl, ?_⟩
          have t2 := in_two i l r
          have ixi := ix_rows hi
          have ni : nD i = .int (i : Int) := rfl
          rw [List.getElem?_eq_getElem hi, Option.getD_some]
          cases hb : (decide (i = l) || decide (i = r)) with
          | true =>
            rw [hb] at t2
            show _ = _
            simp [t_law_merged_1, t2]
          | false =>
            rw [hb] at t2
            refine ⟨by simp [t_law_merged_1, t2], false, ?_⟩
            rw [ni]
            simp [e_law_merged_1, ixi])
      rw [filterMap_if] at hc
      have er : D.lst (((List.range fs.length).filter fun i => !(decide (i = l) || decide (i = r))).map fun i => rD (fs[i]?.getD [])) = fcsL (restL fs l r) := by unfold fcsL restL; rw [List.map_map]; rfl
      rw [er] at hc
      have ad := add_fcs (l := [ring]) (m := restL fs l r) (by
        unfold restL
        rw [List.length_map]
        have := List.length_filter_le (fun k => !(decide (k = l) || decide (k = r))) (List.range fs.length)
        rw [List.length_range] at this
        have := h.nf
        have q1 : [ring].length = 1 := rfl
        rw [q1]
        omega)
      have e1 : D.lst [rD ring] = fcsL [ring] := rfl
      generalize fcsL (restL fs l r) = R at hc ad
      simp [f_law_merged, a1, lrow, hnz', d1, x0, hrow, j1, by1, hc, e1, ad]
end
end Vm

/-! ThN: faces cut; points leaned. -/
namespace Vm
open PySem L2 Geo
theorem cut_split {rot : List Nat} {e : Nat} (h : e + 3 < rot.length) : ∃ x a y b, rot = x :: (a ++ y :: b) ∧ a ≠ [] ∧ b ≠ [] ∧ rot.take (e + 3) = x :: a ++ [y] ∧ rot.drop (e + 2) ++ rot.take 1 = y :: b ++ [x] := by
  cases rot with
  | nil => simp at h
  | cons x t =>
    have ht : e + 2 < t.length := by simp at h; omega
    refine ⟨x, t.take (e + 1), t[e + 1], t.drop (e + 2), ?_, ?_, ?_, ?_, ?_⟩
    · rw [← List.drop_eq_getElem_cons, List.take_append_drop]
    · intro z
      have := congrArg List.length z
      rw [List.length_take] at this
      have : min (e + 1) t.length = 0 := this
      omega
    · intro z
      have := congrArg List.length z
      rw [List.length_drop] at this
      have : t.length - (e + 2) = 0 := this
      omega
    · show x :: t.take (e + 2) = _
      rw [List.take_add_one (i := e + 1), List.getElem?_eq_getElem (by omega)]; rfl
    · show t.drop (e + 1) ++ [x] = _
      rw [List.drop_eq_getElem_cons (by omega)]
theorem Blt.cut {pts : List Pt} {fs : List (List Nat)} {rim : List Nat} (h : Blt pts fs rim) {k : Nat} (hk : k < fs.length) (hf : fs.length ≤ 59) {x y : Nat} {a b : List Nat} (hr : Rot fs[k] (x :: (a ++ y :: b))) (ha : a ≠ []) (hb : b ≠ []) :
    Blt pts (fs.take k ++ [x :: a ++ [y], y :: b ++ [x]] ++ fs.drop (k + 1)) rim := by
  have pm := take_mid hk
  have rl : ∀ fs : List (List Nat), RotL fs fs := fun fs => by
    induction fs with
    | nil => exact .nil
    | cons f fs ih => exact .cons (Rot.refl f) ih
  have d1 := ((h.draw.perm pm).rotL (.cons hr (rl _))).cut ha hb
  have pq := take_put (fs.take k) (fs.drop (k + 1)) [x :: a ++ [y], y :: b ++ [x]]
  have d2 := d1.perm pq.symm
  have mem1 : ∀ z, z ∈ fs[k] ↔ z ∈ x :: a ++ [y] ∨ z ∈ y :: b ++ [x] := fun z => by
    rw [← hr.mem]
    simp
    constructor
    · rintro (h | h | h | h) <;> simp [h]
    · rintro ((h | h | h) | h | h | h) <;> simp [h]
  have mem : ∀ g, g ∈ fs.take k ++ [x :: a ++ [y], y :: b ++ [x]] ++ fs.drop (k + 1) ↔ (g = x :: a ++ [y] ∨ g = y :: b ++ [x]) ∨ g ∈ fs.take k ++ fs.drop (k + 1) := fun g => by
    rw [pq.mem_iff, List.mem_append]
    simp
  refine ⟨d2, fun g hg z hz => ?_, h.np, ?_, fun z hz => ?_⟩
  · rcases (mem g).mp hg with (e | e) | e
    · exact h.lt _ (List.getElem_mem hk) z ((mem1 z).mpr (.inl (e ▸ hz)))
    · exact h.lt _ (List.getElem_mem hk) z ((mem1 z).mpr (.inr (e ▸ hz)))
    · exact h.lt g (pm.mem_iff.mpr (List.mem_cons_of_mem _ e)) z hz
  · rw [List.length_append, List.length_append, List.length_take, List.length_drop]
    simp; omega
  · obtain ⟨f, hf, hzf⟩ := h.cov z hz
    rcases List.mem_cons.mp (pm.mem_iff.mp hf) with e | q
    · rw [e] at hzf
      rcases (mem1 z).mp hzf with w | w
      · exact ⟨_, (mem _).mpr (.inl (.inl rfl)), w⟩
      · exact ⟨_, (mem _).mpr (.inl (.inr rfl)), w⟩
    · exact ⟨f, (mem f).mpr (.inr q), hzf⟩
section
variable {tab : Nat → Option Fn}
theorem r_cut [Has tab 38 f_law_draw] [Has tab 71 f_law_cut] (k : Nat) {pts : List Pt} {fs : List (List Nat)} {rim : List Nat} (h : Blt pts fs rim) {at_ : Nat} (ha : at_ < fs.length) {s : Int × Int} (hs : Dr s) :
    ∃ (fr : Bool) (fs' : List (List Nat)) (s' : Int × Int), run tab (k + 2) 71 [.val (fcsL fs), .val (.int (at_ : Nat)), .own (dD s)] = .ret fr (fcsL fs') [dD s'] ∧ Dr s' ∧ Blt pts fs' rim := by
  have i1 := ix_rows ha
  have hfl := h.flen _ (List.getElem_mem ha)
  have hnf := h.nf
  by_cases h1 : fs[at_].length < 4
  · refine ⟨false, fs, s, ?_, hs, h⟩
    rw [run_at (i := 71) inferInstance]
    have h1' : (fs[at_].length : Int) < 4 := by omega
    simp [f_law_cut, i1, h1']
  · have h1' : ¬ (fs[at_].length : Int) < 4 := by omega
    by_cases h2 : 59 < fs.length
    · refine ⟨false, fs, s, ?_, hs, h⟩
      rw [run_at (i := 71) inferInstance]
      have h2' : (59 : Int) < (fs.length : Int) := by omega
      simp [f_law_cut, i1, h1', h2']
    · have h2' : ¬ (59 : Int) < (fs.length : Int) := by omega
      obtain ⟨b0, s1, d1, hb0, hs1⟩ := r_draw (tab := tab) hs (fs[at_].length : Nat) (m := fs[at_].length) rfl (by omega) (by omega) k
      obtain ⟨e0, s2, d2, he0, hs2⟩ := r_draw (tab := tab) hs1 ((fs[at_].length : Int) - 3) (m := fs[at_].length - 3) (by omega) (by omega) (by omega) k
      have hrl : (fs[at_].drop b0 ++ fs[at_].take b0).length = fs[at_].length := by rw [List.length_append, List.length_drop, List.length_take]; omega
      have hrot : Rot fs[at_] (fs[at_].drop b0 ++ fs[at_].take b0) := ⟨fs[at_].take b0, fs[at_].drop b0, (List.take_append_drop _ _).symm, rfl⟩
      have f1 := slc_r_from fs[at_] b0
      have t1 := slc_r_to fs[at_] b0
      have ad1 := add_r (l := fs[at_].drop b0) (m := fs[at_].take b0) (by
        intro z
        have := congrArg List.length z
        rw [List.length_drop] at this
        have : fs[at_].length - b0 = 0 := this
        omega) (by rw [List.length_drop, List.length_take]; omega)
      generalize fs[at_].drop b0 ++ fs[at_].take b0 = rot at *
      have hkeep : fs[at_].length = rot.length := hrl.symm
      rw [hkeep] at d2
      obtain ⟨x, a, y, b, e1, na, nb, c1, c2⟩ := cut_split (rot := rot) (e := e0) (by omega)
      refine ⟨true, fs.take at_ ++ [x :: a ++ [y], y :: b ++ [x]] ++ fs.drop (at_ + 1), s2, ?_, hs2, h.cut ha (by omega) (e1 ▸ hrot) na nb⟩
      have t2 := slc_r_to rot (e0 + 3)
      have f2 := slc_r_from rot (e0 + 2)
      have t3 := slc_r_to rot 1
      rw [c1] at t2
      have ad2 := add_r (l := rot.drop (e0 + 2)) (m := rot.take 1) (by
        intro z
        have := congrArg List.length z
        rw [List.length_drop] at this
        have : rot.length - (e0 + 2) = 0 := this
        omega) (by rw [List.length_drop, List.length_take]; omega)
      rw [c2] at ad2
      have q1 : ((e0 + 3 : Nat) : Int) = 2 + (e0 : Int) + 1 := by omega
      have q2 : ((e0 + 2 : Nat) : Int) = 2 + (e0 : Int) := by omega
      rw [q1] at t2
      rw [q2] at f2
      have q3 : (((at_ + 1 : Nat)) : Int) = (at_ : Int) + 1 := by omega
      have t4 := slc_fcs_to fs at_
      have f4 := slc_fcs_from fs (at_ + 1)
      rw [q3] at f4
      have ef : D.lst [rD (x :: a ++ [y]), rD (y :: b ++ [x])] = fcsL [x :: a ++ [y], y :: b ++ [x]] := rfl
      have ad3 := add_fcs (l := fs.take at_) (m := [x :: a ++ [y], y :: b ++ [x]]) (by rw [List.length_take]; simp; omega)
      have ad4 := add_fcs (l := fs.take at_ ++ [x :: a ++ [y], y :: b ++ [x]]) (m := fs.drop (at_ + 1)) (by rw [List.length_append, List.length_take, List.length_drop]; simp; omega)
      rw [run_at (i := 71) inferInstance]
      have t3' : slcD (rD rot) none (some 1) = some (rD (rot.take 1)) := t3
      generalize rot.take 1 = R1 at *
      generalize rot.drop (e0 + 2) = R2 at *
      generalize fs[at_].drop b0 = R3 at *
      generalize fs[at_].take b0 = R4 at *
      generalize x :: a ++ [y] = F1 at *
      generalize y :: b ++ [x] = F2 at *
      generalize fs.take at_ ++ [F1, F2] ++ fs.drop (at_ + 1) = G at *
      generalize fs.take at_ ++ [F1, F2] = G2 at *
      simp [f_law_cut, i1, h1', h2', d1, d2, f1, t1, ad1, t2, f2, t3', ad2, ef, t4, f4, ad3, ad4]
end
end Vm

/-! ThO: rims leaned, moved and cut short at corners, in plain rationals. -/
namespace Vm
open PySem L2 Geo
/-- any three spots, in their order, turn to the left -/
def TriL : List Pt → Prop
  | [] => True
  | x :: l => l.Pairwise (fun a b => 0 < ori x a b) ∧ TriL l
def prsB (x : Pt) : List Pt → Bool
  | [] => true
  | a :: r => (r.all fun b => decide (0 < ori x a b)) && prsB x r
def triB : List Pt → Bool
  | [] => true
  | x :: l => prsB x l && triB l
theorem prsB_iff (x : Pt) : ∀ l : List Pt, prsB x l = true → l.Pairwise (fun a b => 0 < ori x a b)
  | [], _ => List.Pairwise.nil
  | a :: r, h => by
    unfold prsB at h
    rw [Bool.and_eq_true, List.all_eq_true] at h
    exact List.pairwise_cons.mpr ⟨fun b hb => of_decide_eq_true (h.1 b hb), prsB_iff x r h.2⟩
theorem triB_iff : ∀ l : List Pt, triB l = true → TriL l
  | [], _ => trivial
  | x :: l, h => by
    unfold triB at h
    rw [Bool.and_eq_true] at h
    exact ⟨prsB_iff x l h.1, triB_iff l h.2⟩
theorem TriL.snoc {x : Pt} : ∀ {l : List Pt}, TriL l → l.Pairwise (fun a b => 0 < ori x a b) → TriL (l ++ [x])
  | [], _, _ => ⟨List.Pairwise.nil, trivial⟩
  | y :: l, h, hx => by
    have h2 := List.pairwise_cons.mp hx
    refine ⟨?_, TriL.snoc h.2 h2.2⟩
    show List.Pairwise _ (l ++ [x])
    rw [List.pairwise_append]
    refine ⟨h.1, List.pairwise_singleton _ _, fun a ha b hb => ?_⟩
    rw [List.mem_singleton.mp hb, ← ori_rot]
    exact h2.1 a ha
theorem TriL.rot : ∀ {a b : List Pt}, TriL (a ++ b) → TriL (b ++ a)
  | [], b, h => by simpa using h
  | x :: a, b, h => by
    have h0 : TriL ((a ++ b) ++ [x]) := TriL.snoc h.2 h.1
    have h1 : TriL (a ++ (b ++ [x])) := by rw [← List.append_assoc]; exact h0
    have := TriL.rot (a := a) h1
    rw [List.append_assoc] at this
    exact this
theorem TriL.map {f : Pt → Pt} (hf : ∀ p q r, 0 < ori p q r → 0 < ori (f p) (f q) (f r)) : ∀ {l : List Pt}, TriL l → TriL (l.map f)
  | [], _ => trivial
  | x :: l, h => ⟨List.pairwise_map.mpr (h.1.imp fun {a b} hab => hf _ _ _ hab), TriL.map hf h.2⟩
theorem TriL.tri {P : Nat → Pt} : ∀ (l : List Nat), TriL (l.map P) → Tri P l
  | [], _ => trivial
  | x :: l, h => ⟨List.pairwise_map.mp h.1, TriL.tri l h.2⟩
theorem map_pf (pts : List Pt) : (List.range pts.length).map (pf pts) = pts := by
  refine List.ext_getElem (by simp) fun i h1 h2 => ?_
  rw [List.getElem_map, List.getElem_range, pf_eq h2]
theorem TriL.bay {pts : List Pt} (h : TriL pts) (hl : 3 ≤ pts.length) : Bay (pf pts) (List.range pts.length) :=
  Bay.of_tri (TriL.tri _ (by rw [map_pf]; exact h)) (by rw [List.length_range]; exact hl)
theorem TriL.blt {pts : List Pt} (h : TriL pts) (hl : 3 ≤ pts.length) (h2 : pts.length ≤ 40) : Blt pts [List.range pts.length] (List.range pts.length) where
  draw := Draw.one (h.bay hl)
  lt := fun f hf x hx => by rw [List.mem_singleton.mp hf] at hx; exact List.mem_range.mp hx
  np := h2
  nf := by show 1 ≤ 60; decide
  cov := fun x hx => ⟨_, List.mem_singleton.mpr rfl, List.mem_range.mpr hx⟩
/-! ### a corner cut short -/
theorem ori_mix (c p a b : Pt) (t : Rat) : ori (gon c (tms (vec c p) t)) a b = (1 - t) * ori c a b + t * ori p a b := by unfold ori gon tms vec; grind
theorem ori_mix2 (c p n a : Pt) (t u : Rat) : ori (gon c (tms (vec c p) t)) (gon c (tms (vec c n) u)) a = (1 - t) * u * ori c n a + t * (1 - u) * ori c a p + t * u * ori n a p := by unfold ori gon tms vec; grind
theorem pw_last {R : Pt → Pt → Prop} {l : List Pt} {p : Pt} (h : (l ++ [p]).Pairwise R) : ∀ a ∈ l, R a p := by
  rw [List.pairwise_append] at h
  exact fun a ha => h.2.2 a ha p (List.mem_singleton.mpr rfl)
theorem mix_pos {t x y : Rat} (h0 : 0 < t) (h1 : t < 1) (hx : 0 < x) (hy : 0 ≤ y) : 0 < (1 - t) * x + t * y := by
  have a := Rat.mul_pos (show (0 : Rat) < 1 - t by grind) hx
  have b := Rat.mul_nonneg (Rat.le_of_lt h0) hy
  grind
theorem TriL.at {l : List Pt} : ∀ {a b : List Pt} {x : Pt}, l = a ++ x :: b → TriL l → b.Pairwise (fun u v => 0 < ori x u v) := by
  intro a b x e h
  subst e
  induction a with
  | nil => exact h.1
  | cons y a ih => exact ih h.2
theorem TriL.cut {c n p : Pt} {m : List Pt} (h : TriL (c :: n :: (m ++ [p]))) {t u : Rat} (t0 : 0 < t) (t1 : t < 1) (u0 : 0 < u) (u1 : u < 1) :
    TriL (gon c (tms (vec c p) t) :: gon c (tms (vec c n) u) :: n :: (m ++ [p])) := by
  have hc : (n :: (m ++ [p])).Pairwise (fun a b => 0 < ori c a b) := h.1
  have hn : (m ++ [p]).Pairwise (fun a b => 0 < ori n a b) := h.2.1
  have hcn := (List.pairwise_cons.mp hc).1
  have hcp : ∀ a ∈ n :: m, 0 < ori c a p := pw_last (l := n :: m) hc
  have hnp : ∀ a ∈ m, 0 < ori n a p := pw_last hn
  have hp : (n :: m).Pairwise (fun a b => 0 < ori p a b) := by
    have : TriL ((n :: m) ++ [p]) := h.2
    exact (TriL.rot this).1
  refine ⟨?_, ?_, h.2⟩
  · refine List.pairwise_cons.mpr ⟨fun a ha => ?_, ?_⟩
    · rw [ori_mix2]
      have k1 := Rat.mul_pos (show (0 : Rat) < 1 - t by grind) u0
      have k2 := Rat.mul_pos t0 (show (0 : Rat) < 1 - u by grind)
      have k3 := Rat.mul_pos t0 u0
      have z1 := (ori_self n p).2.2
      have z2 := (ori_self c n).2.1
      have z3 := (ori_self c p).2.1
      have z4 := (ori_self n p).2.1
      rcases List.mem_cons.mp ha with e | ha
      · subst e
        have := Rat.mul_pos k2 (hcp a List.mem_cons_self)
        rw [z1, z2]; grind
      · rcases List.mem_append.mp ha with hm | hm
        · have a1 := Rat.mul_pos k1 (hcn a (List.mem_append_left _ hm))
          have a2 := Rat.mul_pos k2 (hcp a (List.mem_cons_of_mem _ hm))
          have a3 := Rat.mul_pos k3 (hnp a hm)
          grind
        · rw [List.mem_singleton.mp hm, z3, z4]
          have a1 := Rat.mul_pos k1 (hcn p (by simp))
          grind
    · have : (n :: m ++ [p]).Pairwise (fun a b => 0 < ori (gon c (tms (vec c p) t)) a b) := by
        rw [List.pairwise_append] at *
        have hc' : ((n :: m) ++ [p]).Pairwise (fun a b => 0 < ori c a b) := hc
        rw [List.pairwise_append] at hc'
        refine ⟨?_, List.pairwise_singleton _ _, fun a ha b hb => ?_⟩
        · refine (List.pairwise_and_iff.mpr ⟨hc'.1, hp⟩).imp fun {a b} hab => ?_
          rw [ori_mix]; exact mix_pos t0 t1 hab.1 (Rat.le_of_lt hab.2)
        · rw [List.mem_singleton.mp hb, ori_mix, (ori_self p a).1]
          exact mix_pos t0 t1 (hcp a ha) Rat.le_refl
      exact this
  · refine List.pairwise_cons.mpr ⟨fun a ha => ?_, ?_⟩
    · rw [ori_mix, (ori_self n a).2.2]
      exact mix_pos u0 u1 (hcn a ha) Rat.le_refl
    · refine (List.pairwise_and_iff.mpr ⟨(List.pairwise_cons.mp hc).2, hn⟩).imp fun {a b} hab => ?_
      rw [ori_mix]; exact mix_pos u0 u1 hab.1 (Rat.le_of_lt hab.2)
/-! ### leaned and moved -/
def leant (l r w a b : Rat) (p : Pt) : Pt := ((p.1 + l * p.2) * w + a, (p.2 + r * (p.1 + l * p.2)) * w + b)
theorem ori_leant (l r w a b : Rat) (p q s : Pt) : ori (leant l r w a b p) (leant l r w a b q) (leant l r w a b s) = w * w * ori p q s := by unfold ori leant; grind
theorem TriL.leant {pts : List Pt} (h : TriL pts) {l r w a b : Rat} (hw : 0 < w) : TriL (pts.map (leant l r w a b)) :=
  h.map fun p q s hp => by rw [ori_leant]; exact Rat.mul_pos (Rat.mul_pos hw hw) hp
end Vm

/-! ThP: the law's rims, leaned and moved. -/
namespace Vm
open PySem L2 Geo
section
variable {tab : Nat → Option Fn}
theorem app_pts {l : List Pt} {p : Pt} (h : l.length ≤ 4000) : appD (ptsL l) (pD p) = some (ptsL (l ++ [p])) := by
  unfold appD ptsL
  dsimp only
  rw [if_pos (by rw [List.length_map]; omega), List.map_append]; rfl
@[simp] theorem stoT_p (refs ts : List Nat) (p : Pt) (e : Env) : stoT refs true ts (pD p) e = stoL refs ts [qD p.1, qD p.2] e := rfl
theorem p9 : binD .pow (.int 10) (.int 9) = some (.int 1000000000) := by rw [bd6, if_pos (by decide +kernel)]; rfl
theorem put_loop [Has tab 39 f_law_common] [Has tab 40 f_law_low] [Has tab 42 f_law_sum] [Has tab 43 f_law_times] (k : Nat) {d0 d1 d5 : D} {l r w a b : Rat} (hl : Sz 3 l) (hr : Sz 3 r) (hw : Sz 33 w) (ha : Sz 200 a) (hb : Sz 200 b) :
    ∀ (ps made : List Pt) (s8 s9 : Slot), (∀ p ∈ ps, Sp 40 p) → made.length + ps.length ≤ 4000 →
      ∃ s8' s9', forS (run tab (k + 3)) [1] true [8, 9] b_law_put_1 (ps.map pD) [.val d0, .own d1, .val (qD l), .val (qD r), .val (qD w), .own d5, .own (.lst [qD a, qD b]), .own (ptsL made), s8, s9] =
        .next [.val d0, .own d1, .val (qD l), .val (qD r), .val (qD w), .own d5, .own (.lst [qD a, qD b]), .own (ptsL (made ++ ps.map (leant l r w a b))), s8', s9']
  | [], made, s8, s9, _, _ => ⟨s8, s9, by simp⟩
  | p :: ps, made, s8, s9, hp, hn => by
    have z := hp p List.mem_cons_self
    have t1 := r_ltimes (tab := tab) hl z.2 (by decide) k
    have t2 := r_lsum (tab := tab) z.1 (hl.mul z.2) (by decide) k
    have zx := z.1.add (hl.mul z.2)
    have t3 := r_ltimes (tab := tab) hr zx (by decide) k
    have t4 := r_lsum (tab := tab) z.2 (hr.mul zx) (by decide) k
    have zy := z.2.add (hr.mul zx)
    have t5 := r_ltimes (tab := tab) zx hw (by decide) k
    have t6 := r_lsum (tab := tab) (zx.mul hw) ha (by decide) k
    have t7 := r_ltimes (tab := tab) zy hw (by decide) k
    have t8 := r_lsum (tab := tab) (zy.mul hw) hb (by decide) k
    have hn' : made.length + (ps.length + 1) ≤ 4000 := by simpa using hn
    have ap := app_pts (l := made) (p := leant l r w a b p) (by omega)
    obtain ⟨s8', s9', ih⟩ := put_loop k hl hr hw ha hb (d0 := d0) (d1 := d1) (d5 := d5) ps (made ++ [leant l r w a b p]) (.val (qD (p.1 + l * p.2))) (.val (qD (p.2 + r * (p.1 + l * p.2)))) (fun x hx => hp x (List.mem_cons_of_mem _ hx)) (by simp; omega)
    refine ⟨s8', s9', ?_⟩
    rw [List.append_assoc] at ih
    have e : ∀ q : Pt, made ++ (p :: ps).map (leant l r w a b) = made ++ ([leant l r w a b p] ++ ps.map (leant l r w a b)) := fun _ => rfl
    rw [e (0, 0), List.map_cons, forS_cons, ← ih]
    have fl : pD ((p.1 + l * p.2) * w + a, (p.2 + r * (p.1 + l * p.2)) * w + b) = pD (leant l r w a b p) := rfl
    clear ih e
    generalize leant l r w a b p = P1 at *
    unfold ptsL at *
    generalize (made ++ [P1]).map pD = M1 at *
    generalize made.map pD = M2 at *
    simp [b_law_put_1, t1, t2, t3, t4, t5, t6, t7, t8, fl, ap]
theorem sz_int {i : Int} {b : Nat} (h : i.natAbs < 2 ^ b) (hb : 0 < b) : Sz b (i : Rat) := ⟨by rw [Rat.num_intCast]; exact h, by rw [Rat.den_intCast]; exact Nat.one_lt_two_pow (by omega)⟩
theorem gd_div {n : Int} {T M : Nat} (hT : 0 < T) (h : n.natAbs ≤ M * T) : Gd T M (Rat.divInt n (T : Nat)) := by
  refine ⟨n, ?_, h⟩
  have := natCast_ne hT
  rw [Rat.divInt_eq_div]
  show (n : Rat) / (((T : Nat) : Int) : Rat) * _ = _
  rw [Rat.intCast_natCast]
  grind
theorem gd_small {n : Int} {T M B D : Nat} (hT : 0 < T) (h : n.natAbs ≤ M * T) (hd : T * B = D) : Gd D M (Rat.divInt n (T : Nat)) := hd ▸ (gd_div hT h).widen B
def B141 : Nat := 2 ^ 141
/-- what is put to the leaned spots -/
structure Asd (x : Rat) : Prop where
  sz : Sz 200 x
  gd : Gd 7 (2 ^ 140) x
theorem asd_int {v : Int} (h : v.natAbs < 2 ^ 140) : Asd (v : Rat) where
  sz := sz_int (Nat.lt_of_lt_of_le h (Nat.pow_le_pow_right (by decide) (by decide))) (by decide)
  gd := by
    have := (Gd.int (M := 2 ^ 140) (i := v) (by omega)).widen 7
    rwa [Nat.one_mul] at this
theorem leant_gd {D M N A : Nat} {l r w a b : Rat} {p : Pt} (hl : Gd 1 3 l) (hr : Gd 1 2 r) (hw : Gd 3 N w) (ha : Gd 7 A a) (hb : Gd 7 A b) (h : Gp D M p) : Gp (D * 3 * 7) (9 * M * N + A) (leant l r w a b p) := by
  have hx : Gd D (M + 3 * M) (p.1 + l * p.2) := by
    have := hl.mul h.2
    rw [Nat.one_mul] at this
    exact h.1.add this
  have hy : Gd D (M + 2 * (M + 3 * M)) (p.2 + r * (p.1 + l * p.2)) := by
    have := hr.mul hx
    rw [Nat.one_mul] at this
    exact h.2.add this
  have up : ∀ {x : Rat}, Gd 7 A x → Gd (D * 3 * 7) A x := fun hx => by
    have := hx.widen (D * 3)
    rwa [Nat.mul_comm] at this
  refine ⟨?_, ?_⟩
  · exact (((hx.mono (by omega : M + 3 * M ≤ 9 * M)).mul hw).widen 7).add (up ha)
  · exact (((hy.mono (by omega : M + 2 * (M + 3 * M) ≤ 9 * M)).mul hw).widen 7).add (up hb)
theorem gd_nat3 {n : Int} {M : Nat} (h : n.natAbs ≤ M) : Gd 1 M (n : Rat) := Gd.int h
theorem r_put [Has tab 38 f_law_draw] [Has tab 39 f_law_common] [Has tab 40 f_law_low] [Has tab 41 f_law_figures] [Has tab 42 f_law_sum] [Has tab 43 f_law_times] [Has tab 44 f_law_put] (k : Nat) {pts : List Pt} (hn : pts.length ≤ 100) (hp : ∀ p ∈ pts, Gp 3600 1000 p) {s : Int × Int} (hs : Dr s) :
    ∃ (f : Pt → Pt) (s' : Int × Int), run tab (k + 4) 44 [.val (ptsL pts), .own (dD s)] = .ret true (ptsL (pts.map f)) [dD s'] ∧ Dr s' ∧ (∀ ps, TriL ps → TriL (ps.map f)) ∧ ∀ p ∈ pts, Gp 75600 (2 ^ 141) (f p) := by
  obtain ⟨v1, s1, e1, b1, hs⟩ := r_draw (tab := tab) hs 7 (m := 7) rfl (by decide) (by decide) (k + 2)
  obtain ⟨v2, s2, e2, b2, hs⟩ := r_draw (tab := tab) hs 5 (m := 5) rfl (by decide) (by decide) (k + 2)
  obtain ⟨v3, s3, e3, b3, hs⟩ := r_draw (tab := tab) hs 4 (m := 4) rfl (by decide) (by decide) (k + 2)
  obtain ⟨v4, s4, e4, b4, hs⟩ := r_draw (tab := tab) hs 3 (m := 3) rfl (by decide) (by decide) (k + 2)
  obtain ⟨v5, s5, e5, b5, hs⟩ := r_figures (tab := tab) hs (m := 3) (by decide) (by decide) (k + 1)
  obtain ⟨v6, s6, e6, b6, hs⟩ := r_draw (tab := tab) hs 99 (m := 99) rfl (by decide) (by decide) (k + 2)
  obtain ⟨v7, s7, e7, b7, hs⟩ := r_draw (tab := tab) hs 3 (m := 3) rfl (by decide) (by decide) (k + 2)
  obtain ⟨v8, s8, e8, b8, hs⟩ := r_draw (tab := tab) hs 3 (m := 3) rfl (by decide) (by decide) (k + 2)
  have e5 : run tab (k + 1 + 2) 41 [.own (dD s4), .val (.int 3)] = .ret false (.int v5) [dD s5] := e5
  have ht : ∃ (t : Nat), 0 < t ∧ t ≤ 1000000000 ∧ idxD (.lst [.int 1, .int 1, .int 2, .int 1000000000]) (.int (v3 : Nat)) = some (.int (t : Nat)) := by
    rcases (show v3 = 0 ∨ v3 = 1 ∨ v3 = 2 ∨ v3 = 3 by omega) with rfl | rfl | rfl | rfl
    · exact ⟨1, by decide, by decide, rfl⟩
    · exact ⟨1, by decide, by decide, rfl⟩
    · exact ⟨2, by decide, by decide, rfl⟩
    · exact ⟨1000000000, by decide, by decide, rfl⟩
  have hbt : ∃ (t : Nat), (t = 1 ∨ t = 3) ∧ idxD (.lst [.int 1, .int 1, .int 3]) (.int (v4 : Nat)) = some (.int (t : Nat)) := by
    rcases (show v4 = 0 ∨ v4 = 1 ∨ v4 = 2 by omega) with rfl | rfl | rfl
    · exact ⟨1, .inl rfl, rfl⟩
    · exact ⟨1, .inl rfl, rfl⟩
    · exact ⟨3, .inr rfl, rfl⟩
  obtain ⟨t, t0, t1, ht⟩ := ht
  obtain ⟨u, u1, hu⟩ := hbt
  have u0 : 0 < u := by omega
  have u0' : ((u : Nat) : Int) ≠ 0 := by omega
  obtain ⟨dl1, dl2⟩ := divInt_le (a := (t : Nat)) u0'
  have szw : Sz 33 (Rat.divInt (t : Nat) (u : Nat)) := ⟨by omega, by omega⟩
  have low1 := r_low (tab := tab) (k + 1) (a := (t : Nat)) u0' (szw.mono (by decide)) (gcd_lt u0' (Nat.lt_of_lt_of_le (show ((u : Nat) : Int).natAbs < 2 ^ 2 by omega) (Nat.pow_le_pow_right (by decide) (by decide))))
  have gw : Gd 3 1000000000 (Rat.divInt (t : Nat) (u : Nat)) := by
    rcases u1 with rfl | rfl
    · exact gd_small (B := 3) (by decide) (by omega) rfl
    · exact gd_small (B := 1) (by decide) (by omega) rfl
  have w0 : 0 < Rat.divInt (t : Nat) (u : Nat) := by
    rw [Rat.divInt_eq_div]
    show (0 : Rat) < (((t : Nat) : Int) : Rat) / (((u : Nat) : Int) : Rat)
    rw [Rat.intCast_natCast, Rat.intCast_natCast, Rat.div_def]
    exact Rat.mul_pos (natCast_pos' t0) (Rat.inv_pos.mpr (natCast_pos' u0))
  have h7 : (7 : Int) ≠ 0 := by decide
  obtain ⟨dm1, dm2⟩ := divInt_le (a := (v6 : Int) - 40) h7
  have szm : Sz 10 (Rat.divInt ((v6 : Int) - 40) 7) := ⟨by omega, by omega⟩
  have low2 := r_low (tab := tab) (k + 1) (a := (v6 : Int) - 40) h7 (szm.mono (by decide)) (gcd_lt h7 (Nat.lt_of_lt_of_le (show (7 : Int).natAbs < 2 ^ 3 by decide) (Nat.pow_le_pow_right (by decide) (by decide))))
  have asd : ∀ v : Nat, v < 3 → ∃ x : Rat, Asd x ∧ idxD (.lst [qD 0, qD (v5 : Rat), qD (Rat.divInt ((v6 : Int) - 40) 7)]) (.int (v : Nat)) = some (qD x) := fun v hv => by
    rcases (show v = 0 ∨ v = 1 ∨ v = 2 by omega) with rfl | rfl | rfl
    · exact ⟨0, asd_int (v := 0) (by decide), rfl⟩
    · exact ⟨_, asd_int b5, rfl⟩
    · refine ⟨_, ⟨szm.mono (by decide), (gd_div (T := 7) (M := 9) (by decide) (by omega)).mono ?_⟩, rfl⟩
      exact Nat.le_trans (by decide : 9 ≤ 2 ^ 4) (Nat.pow_le_pow_right (by decide) (by decide))
  obtain ⟨a, ha, ia⟩ := asd v7 b7
  obtain ⟨b, hb, ib⟩ := asd v8 b8
  have zl : Sz 3 (((v1 : Int) - 3 : Int) : Rat) := sz_int (by omega) (by decide)
  have zr : Sz 3 (((v2 : Int) - 2 : Int) : Rat) := sz_int (by omega) (by decide)
  have gl : Gd 1 3 (((v1 : Int) - 3 : Int) : Rat) := Gd.int (by omega)
  have gr : Gd 1 2 (((v2 : Int) - 2 : Int) : Rat) := Gd.int (by omega)
  have spp : ∀ p ∈ pts, Sp 40 p := fun p h => (hp p h).sp (by decide) (by decide) (by decide)
  obtain ⟨s8', s9', lp⟩ := put_loop (tab := tab) k (d0 := ptsL pts) (d1 := dD s8) (d5 := .lst [qD 0, qD (v5 : Rat), qD (Rat.divInt ((v6 : Int) - 40) 7)]) zl zr szw ha.sz hb.sz pts [] .emp .emp spp (by simp; omega)
  refine ⟨leant (((v1 : Int) - 3 : Int) : Rat) (((v2 : Int) - 2 : Int) : Rat) (Rat.divInt (t : Nat) (u : Nat)) a b, s8, ?_, hs, fun ps h => h.leant w0, fun p h => ?_⟩
  · rw [run_at (i := 44) inferInstance]
    rw [List.nil_append] at lp
    have q1 := q_int ((v1 : Int) - 3)
    have q2 := q_int ((v2 : Int) - 2)
    have q3 := q_int v5
    have q0 := q_zero
    have emp : ptsL [] = .lst [] := rfl
    rw [emp] at lp
    generalize (((v1 : Int) - 3 : Int) : Rat) = L at *
    generalize (((v2 : Int) - 2 : Int) : Rat) = R at *
    generalize ((v5 : Int) : Rat) = X at *
    generalize Rat.divInt ((v6 : Int) - 40) 7 = Y at *
    generalize Rat.divInt ((t : Nat) : Int) ((u : Nat) : Int) = W at *
    generalize pts.map (leant L R W a b) = G at *
    simp [f_law_put, e1, e2, e3, e4, e5, e6, e7, e8, ht, hu, low1, low2, p9, q1, q2, q3, q0, ia, ib, lp, -bd6]
  · have := leant_gd gl gr gw ha.gd hb.gd (hp p h)
    have e : 3600 * 3 * 7 = 75600 := rfl
    rw [e] at this
    have le : 9 * 1000 * 1000000000 + 2 ^ 140 ≤ 2 ^ 141 := by
      have e2 : (2 : Nat) ^ 141 = 2 ^ 140 + 2 ^ 140 := by rw [Nat.pow_succ]
      have e3 : 9 * 1000 * 1000000000 ≤ (2 : Nat) ^ 140 := Nat.le_trans (by decide : 9 * 1000 * 1000000000 ≤ 2 ^ 50) (Nat.pow_le_pow_right (by decide) (by decide))
      rw [e2]
      generalize (2 : Nat) ^ 140 = N at e3 ⊢
      omega
    exact ⟨this.1.mono le, this.2.mono le⟩
end
end Vm

/-! ThQ: the law's rims. -/
namespace Vm
open PySem L2 Geo
theorem two_ends {α : Type} {L : List α} {n p : α} (h : 2 ≤ L.length) (hn : L[0]? = some n) (hp : L[L.length - 1]? = some p) : ∃ m, L = n :: (m ++ [p]) := by
  cases L with
  | nil => simp at h
  | cons x t =>
    rw [List.getElem?_cons_zero] at hn
    have hn := Option.some.inj hn
    subst hn
    have ht : t ≠ [] := by intro z; subst z; simp at h
    refine ⟨t.dropLast, ?_⟩
    have e : (x :: t).getLast? = some p := by rw [List.getLast?_eq_getElem?]; exact hp
    have : t.getLast ht = p := by
      rw [List.getLast?_cons_of_ne_nil ht, List.getLast?_eq_some_getLast ht] at e
      exact Option.some.inj e
    rw [← this, List.dropLast_concat_getLast]
theorem around {α : Type} {l : List α} {k : Nat} (h : k < l.length) (h2 : 3 ≤ l.length) {n p : α} (hn : l[(k + 1) % l.length]? = some n) (hp : l[if k = 0 then l.length - 1 else k - 1]? = some p) : ∃ m, l.drop (k + 1) ++ l.take k = n :: (m ++ [p]) := by
  have hl : (l.drop (k + 1) ++ l.take k).length = l.length - 1 := by rw [List.length_append, List.length_drop, List.length_take]; omega
  refine two_ends (by omega) ?_ ?_
  · by_cases e : k + 1 < l.length
    · rw [List.getElem?_append_left (by rw [List.length_drop]; omega), List.getElem?_drop]
      rwa [Nat.mod_eq_of_lt e] at hn
    · have e' : k + 1 = l.length := by omega
      rw [e', Nat.mod_self] at hn
      rw [List.getElem?_append_right (by rw [List.length_drop]; omega), List.length_drop, List.getElem?_take_of_lt (by omega)]
      rw [show 0 - (l.length - (k + 1)) = 0 by omega]
      exact hn
  · rw [hl]
    by_cases e : k = 0
    · subst e
      rw [if_pos rfl] at hp
      rw [List.getElem?_append_left (by rw [List.length_drop]; omega), List.getElem?_drop]
      rw [show 0 + 1 + (l.length - 1 - 1) = l.length - 1 by omega]
      exact hp
    · rw [if_neg e] at hp
      rw [List.getElem?_append_right (by rw [List.length_drop]; omega), List.length_drop, List.getElem?_take_of_lt (by omega)]
      rw [show l.length - 1 - 1 - (l.length - (k + 1)) = k - 1 by omega]
      exact hp
theorem ix_prev {l : List Pt} {k : Nat} (h : k < l.length) : idxD (ptsL l) (.int ((k : Int) - 1)) = some (pD (pf l (if k = 0 then l.length - 1 else k - 1))) := by
  by_cases e : k = 0
  · subst e
    rw [if_pos rfl, pf_eq (by omega)]
    show atI (l.map pD) (((0 : Nat) : Int) - 1) = _
    rw [show (((0 : Nat) : Int) - 1) = -1 from rfl, atI_last, List.getLast?_eq_getElem?, List.length_map, List.getElem?_map, List.getElem?_eq_getElem (by omega)]; rfl
  · rw [if_neg e, show ((k : Int) - 1) = ((k - 1 : Nat) : Int) by omega]
    exact (ix_pf (by omega)).1
theorem pf_get {l : List Pt} {k : Nat} (h : k < l.length) : l[k]? = some (pf l k) := by rw [pf_eq h, List.getElem?_eq_getElem h]
def Third (t : Rat) : Prop := 0 < t ∧ t < 1 ∧ Sz 3 t ∧ ∀ (D M : Nat) (x : Rat), Gd D M x → Gd (D * 60) M (x * t)
theorem third_of {v : Nat} (h : v < 3) : Third (1 / ((3 + v : Nat) : Rat)) := by
  have g : ∀ (T B : Nat), 0 < T → T * B = 60 → ∀ (D M : Nat) (x : Rat), Gd D M x → Gd (D * 60) M (x * (1 / (T : Rat))) := fun T B hT e D M x hx => by
    have := ((hx.mono (show M ≤ M * T from Nat.le_mul_of_pos_right M hT)).part hT).widen B
    rwa [Nat.mul_assoc, e] at this
  refine ⟨?_, ?_, sz_part (by omega) (by omega), ?_⟩
  · rw [Rat.div_def, Rat.one_mul]
    exact Rat.inv_pos.mpr (natCast_pos' (by omega))
  · rcases (show v = 0 ∨ v = 1 ∨ v = 2 by omega) with rfl | rfl | rfl <;> decide +kernel
  · rcases (show v = 0 ∨ v = 1 ∨ v = 2 by omega) with rfl | rfl | rfl
    · exact g 3 20 (by decide) rfl
    · exact g 4 15 (by decide) rfl
    · exact g 5 12 (by decide) rfl
theorem end_gd {D M : Nat} {c p : Pt} {t : Rat} (ht : Third t) (hc : Gp D M c) (hp : Gp D M p) : Gp (D * 60) (3 * M) (gon c (tms (vec c p) t)) :=
  ⟨((hc.1.widen 60).add (ht.2.2.2 _ _ _ (hp.1.sub hc.1))).mono (by omega), ((hc.2.widen 60).add (ht.2.2.2 _ _ _ (hp.2.sub hc.2))).mono (by omega)⟩
section
variable {tab : Nat → Option Fn}
/-- a rim of the law -/
structure Rim (pts : List Pt) (D M : Nat) : Prop where
  tri : TriL pts
  lo : 3 ≤ pts.length
  hi : pts.length ≤ 9
  gp : ∀ p ∈ pts, Gp D M p
theorem pf_mem {l : List Pt} {k : Nat} (h : k < l.length) : pf l k ∈ l := by rw [pf_eq h]; exact List.getElem_mem h
theorem Rim.cut {pts : List Pt} {D M : Nat} (h : Rim pts D M) (h8 : pts.length < 8) {k : Nat} (hk : k < pts.length) {t u : Rat} (ht : Third t) (hu : Third u) :
    Rim (pts.take k ++ [gon (pf pts k) (tms (vec (pf pts k) (pf pts (if k = 0 then pts.length - 1 else k - 1))) t), gon (pf pts k) (tms (vec (pf pts k) (pf pts ((k + 1) % pts.length))) u)] ++ pts.drop (k + 1)) (D * 60) (3 * M) := by
  have hl := h.lo
  have hn : (k + 1) % pts.length < pts.length := Nat.mod_lt _ (by omega)
  have hp : (if k = 0 then pts.length - 1 else k - 1) < pts.length := by split <;> omega
  obtain ⟨m, e⟩ := around hk hl (pf_get hn) (pf_get hp)
  have g : ∀ {i}, i < pts.length → Gp D M (pf pts i) := fun h' => h.gp _ (pf_mem h')
  generalize (if k = 0 then pts.length - 1 else k - 1) = pv at *
  generalize (k + 1) % pts.length = nx at *
  have t0 : TriL (pts.take k ++ (pf pts k :: pts.drop (k + 1))) := by
    rw [pf_eq hk, ← List.drop_eq_getElem_cons, List.take_append_drop]
    exact h.tri
  have t1 : TriL (pf pts k :: (pts.drop (k + 1) ++ pts.take k)) := t0.rot
  rw [e] at t1
  have t2 := t1.cut ht.1 ht.2.1 hu.1 hu.2.1
  rw [← e] at t2
  have t3 : TriL (pts.take k ++ (gon (pf pts k) (tms (vec (pf pts k) (pf pts pv)) t) :: gon (pf pts k) (tms (vec (pf pts k) (pf pts nx)) u) :: pts.drop (k + 1))) := TriL.rot (a := _ :: _ :: pts.drop (k + 1)) t2
  refine ⟨?_, ?_, ?_, ?_⟩
  · rw [List.append_assoc]; exact t3
  · rw [List.length_append, List.length_append, List.length_take, List.length_drop]; simp; omega
  · rw [List.length_append, List.length_append, List.length_take, List.length_drop]; simp; omega
  · intro p hp'
    have up : ∀ q ∈ pts, Gp (D * 60) (3 * M) q := fun q hq => ⟨((h.gp q hq).1.widen 60).mono (by omega), ((h.gp q hq).2.widen 60).mono (by omega)⟩
    rw [List.append_assoc] at hp'
    rcases List.mem_append.mp hp' with hp' | hp'
    · exact up p (List.mem_of_mem_take hp')
    · rcases List.mem_append.mp hp' with hp' | hp'
      · rcases List.mem_cons.mp hp' with e | hp'
        · rw [e]; exact end_gd ht (g hk) (g hp)
        · rw [List.mem_singleton.mp hp']; exact end_gd hu (g hk) (g hn)
      · exact up p (List.mem_of_mem_drop hp')
theorem Rim.up {pts : List Pt} {D M : Nat} (h : Rim pts D M) : Rim pts (D * 60) (3 * M) := ⟨h.tri, h.lo, h.hi, fun q hq => ⟨((h.gp q hq).1.widen 60).mono (by omega), ((h.gp q hq).2.widen 60).mono (by omega)⟩⟩
theorem rim_loop [Has tab 38 f_law_draw] [Has tab 39 f_law_common] [Has tab 40 f_law_low] [Has tab 42 f_law_sum] [Has tab 43 f_law_times] [Has tab 45 f_law_often] [Has tab 46 f_law_less] [Has tab 47 f_law_step] [Has tab 48 f_law_far] (k : Nat) {d1 : D} {s4 s9 s10 : Slot} :
    ∀ (l : List D) (D M : Nat) (pts : List Pt) (s : Int × Int) (s3 s5 s6 s7 s8 : Slot), Dr s → Rim pts D M → 0 < D → D * 60 ^ l.length ≤ 3600 → M * 3 ^ l.length ≤ 1000 → (s8 = .emp ∨ ∃ d, s8 = .own d) →
      ∃ (pts' : List Pt) (s' : Int × Int) (s3' s5' s6' s7' s8' : Slot), forS (run tab (k + 4)) [0] false [3] b_law_rim_1 l [.own (dD s), .val d1, .own (ptsL pts), s3, s4, s5, s6, s7, s8, s9, s10] =
        .next [.own (dD s'), .val d1, .own (ptsL pts'), s3', s4, s5', s6', s7', s8', s9, s10] ∧ Dr s' ∧ Rim pts' (D * 60 ^ l.length) (M * 3 ^ l.length)
  | [], D, M, pts, s, s3, s5, s6, s7, s8, hs, hr, _, _, _, _ => ⟨pts, s, s3, s5, s6, s7, s8, rfl, hs, by simpa using hr⟩
  | x :: l, D, M, pts, s, s3, s5, s6, s7, s8, hs, hr, h0, hD, hM, h8 => by
    rw [List.length_cons, Nat.pow_succ, Nat.mul_comm (60 ^ l.length), ← Nat.mul_assoc] at hD ⊢
    rw [List.length_cons, Nat.pow_succ, Nat.mul_comm (3 ^ l.length), ← Nat.mul_assoc] at hM
    have eM : M * 3 ^ (l.length + 1) = 3 * M * 3 ^ l.length := by rw [Nat.pow_succ, Nat.mul_comm (3 ^ l.length), ← Nat.mul_assoc, Nat.mul_comm M 3]
    rw [eM]
    rw [Nat.mul_comm M 3] at hM
    have hlo := hr.lo
    have hhi := hr.hi
    obtain ⟨at_, s1, e1, b1, hs⟩ := r_draw (tab := tab) hs (pts.length : Nat) (m := pts.length) rfl (by omega) (by omega) (k + 3)
    by_cases h8' : pts.length < 8
    · obtain ⟨v1, s2, e2, b2, hs⟩ := r_draw (tab := tab) hs 3 (m := 3) rfl (by decide) (by decide) (k + 3)
      obtain ⟨v2, s3_, e3, b3, hs⟩ := r_draw (tab := tab) hs 3 (m := 3) rfl (by decide) (by decide) (k + 3)
      have t1 := third_of b2
      have t2 := third_of b3
      have hrim := hr.cut h8' b1 t1 t2
      have i1 : idxD (ptsL pts) (.int (at_ : Nat)) = some (pD (pf pts at_)) := (ix_pf b1).1
      have i2 := ix_prev b1
      have hn : (at_ + 1) % pts.length < pts.length := Nat.mod_lt _ (by omega)
      have hp : (if at_ = 0 then pts.length - 1 else at_ - 1) < pts.length := by split <;> omega
      have i3 : idxD (ptsL pts) (.int (((at_ + 1) % pts.length : Nat))) = some (pD (pf pts ((at_ + 1) % pts.length))) := (ix_pf hn).1
      have fm : ((at_ : Int) + 1).fmod (pts.length : Int) = (((at_ + 1) % pts.length : Nat) : Int) := by
        rw [Int.fmod_eq_emod_of_nonneg _ (by omega)]; rfl
      have D3600 : D ≤ 3600 := by
        have := Nat.mul_le_mul_left D (Nat.mul_le_mul_left 60 (Nat.pow_pos (n := l.length) (show 0 < 60 by decide)))
        rw [Nat.mul_assoc] at hD
        omega
      have M1000 : M ≤ 1000 := by
        have := Nat.mul_le_mul_left (3 * M) (Nat.pow_pos (n := l.length) (show 0 < 3 by decide))
        omega
      have g : ∀ {i}, i < pts.length → Sp 40 (pf pts i) := fun h' => (hr.gp _ (pf_mem h')).sp h0 (by omega) (Nat.lt_of_le_of_lt (Nat.mul_le_mul M1000 D3600) (by decide))
      have zc := g b1
      have zp := g hp
      have zn := g hn
      have q1 := q_part (T := 3 + v1) (by omega)
      have q2 := q_part (T := 3 + v2) (by omega)
      have c1 : (((3 + v1 : Nat)) : Int) = 3 + (v1 : Int) := by omega
      have c2 : (((3 + v2 : Nat)) : Int) = 3 + (v2 : Int) := by omega
      rw [c1] at q1
      rw [c2] at q2
      have z1 := t1.2.2.1
      have z2 := t2.2.2.1
      have tt := slc_pts_to pts at_
      have ff := slc_pts_from pts (at_ + 1)
      rw [show (((at_ + 1 : Nat)) : Int) = (at_ : Int) + 1 by omega] at ff
      have nl : pts ≠ [] := by intro z; rw [z] at hlo; simp at hlo
      have h8i : (pts.length : Int) < 8 := by omega
      generalize (if at_ = 0 then pts.length - 1 else at_ - 1) = pv at *
      generalize (at_ + 1) % pts.length = nx at *
      generalize 1 / ((3 + v1 : Nat) : Rat) = T at *
      generalize 1 / ((3 + v2 : Nat) : Rat) = U at *
      generalize pf pts at_ = C at *
      generalize pf pts pv = P at *
      generalize pf pts nx = N at *
      have o1 := r_lstep (tab := tab) zc zp (by decide) k
      have o2 := r_loften (tab := tab) (zc.vec zp) z1 (by decide) k
      have o3 := r_lstep (tab := tab) zc zn (by decide) k
      have o4 := r_loften (tab := tab) (zc.vec zn) z2 (by decide) k
      have o5 := r_lfar (tab := tab) zc ((zc.vec zp).tms z1) (by decide) k
      have o6 := r_lfar (tab := tab) zc ((zc.vec zn).tms z2) (by decide) k
      have ad1 := add_pts (l := pts.take at_) (m := [gon C (tms (vec C P) T), gon C (tms (vec C N) U)]) (by rw [List.length_take]; simp; omega)
      have ad2 := add_pts (l := pts.take at_ ++ [gon C (tms (vec C P) T), gon C (tms (vec C N) U)]) (m := pts.drop (at_ + 1)) (by rw [List.length_append, List.length_take, List.length_drop]; simp; omega)
      have el : ptsL [gon C (tms (vec C P) T), gon C (tms (vec C N) U)] = .lst [pD (gon C (tms (vec C P) T)), pD (gon C (tms (vec C N) U))] := rfl
      rw [el] at ad1
      obtain ⟨pts', s', s3', s5', s6', s7', s8', ih, r1, r2⟩ := rim_loop k (d1 := d1) (s4 := s4) (s9 := s9) (s10 := s10) l (D * 60) (3 * M) _ s3_ (.val x) (.val (.int (at_ : Nat))) (.val (pD (tms (vec C P) T))) (.val (pD (vec C N))) (.own (.lst [pD (gon C (tms (vec C P) T)), pD (gon C (tms (vec C N) U))])) hs hrim (by omega) hD hM (.inr ⟨_, rfl⟩)
      refine ⟨pts', s', s3', s5', s6', s7', s8', ?_, r1, r2⟩
      clear hrim r2 hr
      rw [forS_cons, ← ih]
      clear ih
      generalize pts.take at_ ++ [gon C (tms (vec C P) T), gon C (tms (vec C N) U)] ++ pts.drop (at_ + 1) = G1 at *
      generalize pts.take at_ ++ [gon C (tms (vec C P) T), gon C (tms (vec C N) U)] = G2 at *
      generalize pts.take at_ = G3 at *
      generalize pts.drop (at_ + 1) = G4 at *
      rcases h8 with rfl | ⟨d8, rfl⟩ <;> simp [b_law_rim_1, e1, e2, e3, h8', h8i, i1, i2, i3, fm, nl, q1, q2, o1, o2, o3, o4, o5, o6, tt, ff, ad1, ad2]
    · obtain ⟨pts', s', s3', s5', s6', s7', s8', ih, r1, r2⟩ := rim_loop k (d1 := d1) (s4 := s4) (s9 := s9) (s10 := s10) l (D * 60) (3 * M) pts s1 (.val x) (.val (.int (at_ : Nat))) s6 s7 s8 hs hr.up (by omega) hD hM h8
      refine ⟨pts', s', s3', s5', s6', s7', s8', ?_, r1, r2⟩
      have h8i : ¬ (pts.length : Int) < 8 := by omega
      rw [forS_cons, ← ih]
      simp [b_law_rim_1, e1, h8', h8i]
end
end Vm

/-! ThR: walks over one's own lists; the law's rims. -/
namespace Vm
open PySem L2 Geo
section
variable {call : CallT} {refs : List Nat} {e : Env}
theorem compL_mapW {α : Type} {elt : Env → Res (Bool × D)} {cond : Env → Res Bool} {tp : Bool} {ts : List Nat} {xs : List α} {enc : α → D} {eb : Env} {f : α → Option D} {w : Wk} (hw : ∀ e, clr ts e = eb → ∀ n, w.look e n = some (xs.map enc)[n]?)
    (ht : ∀ x ∈ xs, ∃ e3, stoT refs tp ts (enc x) eb = .ok () e3 ∧ match f x with
      | some v => cond e3 = .ok true e3 ∧ ∃ fr e4, elt e3 = .ok (fr, v) e4 ∧ clr ts e4 = eb
      | none => cond e3 = .ok false e3 ∧ clr ts e3 = eb) : ∀ (k n : Nat) (e : Env), xs.length ≤ k + n → n ≤ xs.length → clr ts e = eb →
    ∃ e', compL elt cond (fun d e => stoT refs tp ts d (clr ts e)) w k n e = .ok ((xs.drop n).filterMap f) e' ∧ clr ts e' = eb
  | 0, n, e, h1, h2, he => by
    refine ⟨e, ?_, he⟩
    have : (xs.map enc)[n]? = none := List.getElem?_eq_none (by rw [List.length_map]; omega)
    unfold compL
    rw [hw e he, this, List.drop_of_length_le (by omega)]; rfl
  | k + 1, n, e, h1, h2, he => by
    by_cases hn : n < xs.length
    · have hg : (xs.map enc)[n]? = some (enc xs[n]) := by rw [List.getElem?_map, List.getElem?_eq_getElem hn]; rfl
      obtain ⟨e3, s1, s2⟩ := ht xs[n] (List.getElem_mem hn)
      rw [List.drop_eq_getElem_cons hn, List.filterMap_cons]
      unfold compL
      rw [hw e he, hg]
      dsimp only
      rw [he, s1]
      dsimp only
      cases hf : f xs[n] with
      | none =>
        rw [hf] at s2
        obtain ⟨c1, c2⟩ := s2
        rw [c1]
        exact compL_mapW hw ht k (n + 1) e3 (by omega) hn c2
      | some v =>
        rw [hf] at s2
        obtain ⟨c1, fr, e4, c2, c3⟩ := s2
        rw [c1]
        dsimp only
        rw [c2]
        dsimp only
        obtain ⟨e', r1, r2⟩ := compL_mapW hw ht k (n + 1) e4 (by omega) hn c3
        rw [r1]
        exact ⟨e', rfl, r2⟩
    · refine ⟨e, ?_, he⟩
      have : (xs.map enc)[n]? = none := List.getElem?_eq_none (by rw [List.length_map]; omega)
      unfold compL
      rw [hw e he, this, List.drop_of_length_le (by omega)]; rfl
theorem comp_own {α : Type} {elt : E} {tp : Bool} {ts : List Nat} {i : Nat} {cond : Eo} {xs : List α} {enc : α → D} (f : α → Option D) (hs : e[i]? = some (.own (.lst (xs.map enc)))) (hi : i ∉ ts) (hk : hideOk (i :: refs) ts e = true) (hn : xs.length ≤ 4000)
    (ht : ∀ x ∈ xs, ∃ e3, stoT refs tp ts (enc x) (clr ts e) = .ok () e3 ∧ clr ts e3 = clr ts e ∧ match f x with
      | some v => evC call refs cond e3 = .ok true e3 ∧ ∃ fr, evE call refs elt e3 = .ok (fr, v) e3
      | none => evC call refs cond e3 = .ok false e3) :
    evE call refs (.comp elt tp ts (.own i) cond) e = .ok (true, .lst (xs.filterMap f)) e := by
  have src : evSrc call refs (.own i) e = .ok (.ow i ((xs.map enc).length + 4096)) e := by rw [src_own, hs]
  simp only [evE, src, rb1]
  rw [if_pos ⟨hk, by show (xs.map enc).length + 4096 ≤ _; rw [List.length_map]; omega⟩]
  have hw : ∀ e2, clr ts e2 = clr ts e → ∀ n, Wk.look (.ow i ((xs.map enc).length + 4096)) e2 n = some (xs.map enc)[n]? := fun e2 h n => by
    have : e2[i]? = some (.own (.lst (xs.map enc))) := by rw [← clr_out hi, h, clr_out hi]; exact hs
    have p : pk e2 i = some (.lst (xs.map enc)) := by unfold pk; rw [this]
    unfold Wk.look
    dsimp only
    rw [p]
  obtain ⟨e', r1, r2⟩ := compL_mapW (cond := fun e => evC call refs cond e) (elt := fun e => evE call refs elt e) (f := f) hw (fun x hx => by
    obtain ⟨e3, h1, h2, h3⟩ := ht x hx
    refine ⟨e3, h1, ?_⟩
    cases hf : f x with
    | none => rw [hf] at h3; exact ⟨h3, h2⟩
    | some v =>
      rw [hf] at h3
      obtain ⟨h4, fr, h5⟩ := h3
      exact ⟨h4, fr, e3, h5, h2⟩) (Wk.fuel (.ow i ((xs.map enc).length + 4096))) 0 e (by show _ ≤ (xs.map enc).length + 4096 + 0; rw [List.length_map]; omega) (Nat.zero_le _) rfl
  show (match compL (fun e => evE call refs elt e) (fun e => evC call refs cond e) (fun d e => stoT refs tp ts d (clr ts e)) _ (Wk.fuel (.ow i ((xs.map enc).length + 4096))) 0 e with | .ok l e2 => _ | _ => _) = _
  rw [r1]
  show Res.ok _ (Vm.back e ts e') = _
  rw [back_same r2]
  rfl
theorem loopW_ow (tp : Bool) (ts : List Nat) (b : Ss) (i n : Nat) : loopW call refs tp ts b (.ow i n) e = forL (fun e => evSs call b (i :: refs) e) (stoT (i :: refs) tp ts) (.ow i n) n 0 e := rfl
theorem forO_nil {f : Env → SR} {st : D → Env → Res Unit} {i m : Nat} {l : List D} (h : e[i]? = some (.own (.lst l))) (k : Nat) : forL f st (.ow i m) k l.length e = .next e := by
  have p : pk e i = some (.lst l) := by unfold pk; rw [h]
  cases k <;> (unfold forL Wk.look; dsimp only; rw [p]; dsimp only; rw [List.getElem?_eq_none (Nat.le_refl _)])
theorem forO_cons {f : Env → SR} {st : D → Env → Res Unit} {i m n : Nat} {l : List D} {d : D} (h : e[i]? = some (.own (.lst l))) (hd : l[n]? = some d) (k : Nat) : forL f st (.ow i m) (k + 1) n e = (st d e).to fun _ e => (f e).then fun e => forL f st (.ow i m) k (n + 1) e := by
  have p : pk e i = some (.lst l) := by unfold pk; rw [h]
  rw [forL]
  unfold Wk.look
  dsimp only
  rw [p]; dsimp only; rw [hd]
end
section
variable {tab : Nat → Option Fn}
def ipD (p : Int × Int) : D := .tup [.int p.1, .int p.2]
def ip (p : Int × Int) : Pt := ((p.1 : Rat), (p.2 : Rat))
theorem rim_pts (call : CallT) {d0 : Slot} {d1 : Slot} {s3 : Slot} (ps : List (Int × Int)) (h : ps.length ≤ 4000) :
    evE call [0] (.comp e_law_rim_1 true [9, 10] (.own 4) .none) [d0, d1, .emp, s3, .own (.lst (ps.map ipD)), .emp, .emp, .emp, .emp, .emp, .emp] = .ok (true, ptsL (ps.map ip)) [d0, d1, .emp, s3, .own (.lst (ps.map ipD)), .emp, .emp, .emp, .emp, .emp, .emp] := by
  have := comp_own (call := call) (refs := [0]) (elt := e_law_rim_1) (tp := true) (ts := [9, 10]) (i := 4) (cond := .none) (xs := ps) (enc := ipD) (e := [d0, d1, .emp, s3, .own (.lst (ps.map ipD)), .emp, .emp, .emp, .emp, .emp, .emp]) (fun p => some (pD (ip p))) rfl (by decide) rfl h (fun p hp => by
    refine ⟨[d0, d1, .emp, s3, .own (.lst (ps.map ipD)), .emp, .emp, .emp, .emp, .val (.int p.1), .val (.int p.2)], rfl, rfl, rfl, false, ?_⟩
    have q1 := q_int p.1
    have q2 := q_int p.2
    simp [e_law_rim_1, q1, q2, ip])
  rw [this]
  have e : ps.filterMap (fun p => some (pD (ip p))) = (ps.map ip).map pD := by
    rw [List.map_map]
    show ps.filterMap (some ∘ (pD ∘ ip)) = _
    rw [List.filterMap_eq_map]
  rw [e]; rfl
theorem comp_src {call : CallT} {refs : List Nat} {e e1 : Env} {α : Type} {elt : E} {tp : Bool} {ts : List Nat} {src : Src} {cond : Eo} {xs : List α} {enc : α → D} (f : α → Option D) (hs : evSrc call refs src e = .ok (.st (xs.map enc)) e1) (hk : hideOk refs ts e1 = true) (hn : xs.length ≤ 16777216)
    (ht : ∀ x ∈ xs, ∃ e3, stoT refs tp ts (enc x) (clr ts e1) = .ok () e3 ∧ clr ts e3 = clr ts e1 ∧ match f x with
      | some v => evC call refs cond e3 = .ok true e3 ∧ ∃ fr, evE call refs elt e3 = .ok (fr, v) e3
      | none => evC call refs cond e3 = .ok false e3) :
    evE call refs (.comp elt tp ts src cond) e = .ok (true, .lst (xs.filterMap f)) e1 := by
  simp only [evE, hs, rb1]
  rw [if_pos ⟨hk, by show (xs.map enc).length ≤ _; rw [List.length_map]; exact hn⟩]
  obtain ⟨e', r1, r2⟩ := compL_mapW (w := .st (xs.map enc)) (f := f) (cond := fun e => evC call refs cond e) (elt := fun e => evE call refs elt e) (fun _ _ _ => rfl) (fun x hx => by
    obtain ⟨e3, h1, h2, h3⟩ := ht x hx
    refine ⟨e3, h1, ?_⟩
    cases hf : f x with
    | none => rw [hf] at h3; exact ⟨h3, h2⟩
    | some v =>
      rw [hf] at h3
      obtain ⟨h4, fr, h5⟩ := h3
      exact ⟨h4, fr, e3, h5, h2⟩) (Wk.fuel (.st (xs.map enc))) 0 e1 (by show _ ≤ (xs.map enc).length + 0; rw [List.length_map]; omega) (Nat.zero_le _) rfl
  show (match compL (fun e => evE call refs elt e) (fun e => evC call refs cond e) (fun d e => stoT refs tp ts d (clr ts e)) (.st (xs.map enc)) (Wk.fuel (.st (xs.map enc))) 0 e1 with | .ok l e2 => _ | _ => _) = _
  rw [r1]
  show Res.ok _ (Vm.back e1 ts e') = _
  rw [back_same r2]
  rfl
/-- where a rim begins -/
def okB (ps : List (Int × Int)) : Bool := triB (ps.map ip) && decide (3 ≤ ps.length) && decide (ps.length ≤ 8) && ps.all fun p => decide (p.1.natAbs ≤ 81) && decide (p.2.natAbs ≤ 81)
theorem okB_rim {ps : List (Int × Int)} (h : okB ps = true) : Rim (ps.map ip) 1 81 ∧ ps.length ≤ 8 := by
  unfold okB at h
  rw [Bool.and_eq_true, Bool.and_eq_true, Bool.and_eq_true, List.all_eq_true] at h
  obtain ⟨⟨⟨h1, h2⟩, h3⟩, h4⟩ := h
  have h2 := of_decide_eq_true h2
  have h3 := of_decide_eq_true h3
  refine ⟨⟨triB_iff _ h1, by rw [List.length_map]; exact h2, by rw [List.length_map]; omega, fun p hp => ?_⟩, h3⟩
  obtain ⟨q, hq, e⟩ := List.mem_map.mp hp
  have := h4 q hq
  rw [Bool.and_eq_true] at this
  rw [← e]
  exact ⟨Gd.int (of_decide_eq_true this.1), Gd.int (of_decide_eq_true this.2)⟩
def base0 (d : Nat) : List (Int × Int) := [(0, 0), (12, 0), ((d : Int), 6)]
def base1 (u v : Nat) : List (Int × Int) := [(0, 0), (9 + (u : Int), 0), (8, 7 + (v : Int)), (-1, 8)]
def base2 (n : Nat) : List (Int × Int) := (List.range n).map fun (k : Nat) => ((k : Int), (k : Int) * (k : Int))
theorem ok0 : ∀ d, d < 13 → okB (base0 d) = true := by decide +kernel
theorem ok1 : ∀ u, u < 4 → ∀ v, v < 4 → okB (base1 u v) = true := by decide +kernel
theorem ok2 : ∀ v, v < 6 → okB (base2 (3 + v)) = true := by decide +kernel
theorem rim_rest [Has tab 38 f_law_draw] [Has tab 39 f_law_common] [Has tab 40 f_law_low] [Has tab 42 f_law_sum] [Has tab 43 f_law_times] [Has tab 45 f_law_often] [Has tab 46 f_law_less] [Has tab 47 f_law_step] [Has tab 48 f_law_far] (k : Nat) {d1 : D} {s3 : Slot} {ps : List (Int × Int)} (h : okB ps = true) {s : Int × Int} (hs : Dr s) :
    ∃ (pts' : List Pt) (s' s1 : Int × Int) (v n : Nat) (s3' s5' s6' s7' s8' : Slot),
      evE (run tab (k + 4)) [0] (.comp e_law_rim_1 true [9, 10] (.own 4) .none) [.own (dD s), .val d1, .emp, s3, .own (.lst (ps.map ipD)), .emp, .emp, .emp, .emp, .emp, .emp] = .ok (true, ptsL (ps.map ip)) [.own (dD s), .val d1, .emp, s3, .own (.lst (ps.map ipD)), .emp, .emp, .emp, .emp, .emp, .emp] ∧
      run tab (k + 3 + 1) 38 [.own (dD s), .val (.int 4)] = .ret false (.int (v : Nat)) [dD s1] ∧
      idxD (.lst [.int 0, .int 0, .int 1, .int 2]) (.int (v : Nat)) = some (.int (n : Nat)) ∧
      rngD [.int (n : Nat)] = some (idxs 0 n) ∧
      forS (run tab (k + 4)) [0] false [3] b_law_rim_1 (idxs 0 n) [.own (dD s1), .val d1, .own (ptsL (ps.map ip)), s3, .own (.lst (ps.map ipD)), .emp, .emp, .emp, .emp, .emp, .emp] =
        .next [.own (dD s'), .val d1, .own (ptsL pts'), s3', .own (.lst (ps.map ipD)), s5', s6', s7', s8', .emp, .emp] ∧
      Dr s' ∧ Rim pts' 3600 1000 := by
  obtain ⟨hr, hl⟩ := okB_rim h
  have cp := rim_pts (run tab (k + 4)) (d0 := .own (dD s)) (d1 := .val d1) (s3 := s3) ps (by omega)
  obtain ⟨v, s1, e1, b1, hs⟩ := r_draw (tab := tab) hs 4 (m := 4) rfl (by decide) (by decide) (k + 3)
  have hn : ∃ n : Nat, n ≤ 2 ∧ idxD (.lst [.int 0, .int 0, .int 1, .int 2]) (.int (v : Nat)) = some (.int (n : Nat)) := by
    rcases (show v = 0 ∨ v = 1 ∨ v = 2 ∨ v = 3 by omega) with rfl | rfl | rfl | rfl
    · exact ⟨0, by decide, rfl⟩
    · exact ⟨0, by decide, rfl⟩
    · exact ⟨1, by decide, rfl⟩
    · exact ⟨2, by decide, rfl⟩
  obtain ⟨n, n2, i1⟩ := hn
  have rl := rng_len n (by omega)
  have ln : (idxs 0 n).length = n := by unfold idxs; simp
  obtain ⟨pts', s', s3', s5', s6', s7', s8', lp, r1, r2⟩ := rim_loop (tab := tab) k (d1 := d1) (s4 := .own (.lst (ps.map ipD))) (s9 := .emp) (s10 := .emp) (idxs 0 n) 1 81 (ps.map ip) s1 s3 .emp .emp .emp .emp hs hr (by decide) (by
      rw [ln]; rcases (show n = 0 ∨ n = 1 ∨ n = 2 by omega) with rfl | rfl | rfl <;> decide) (by
      rw [ln]; rcases (show n = 0 ∨ n = 1 ∨ n = 2 by omega) with rfl | rfl | rfl <;> decide) (.inl rfl)
  rw [ln] at r2
  refine ⟨pts', s', s1, v, n, s3', s5', s6', s7', s8', cp, e1, i1, rl, lp, r1, r2.tri, r2.lo, r2.hi, fun p hp => ?_⟩
  · have g := r2.gp p hp
    rcases (show n = 0 ∨ n = 1 ∨ n = 2 by omega) with rfl | rfl | rfl
    · have := g.widen 3600
      exact ⟨this.1.mono (by decide), this.2.mono (by decide)⟩
    · have := g.widen 60
      exact ⟨this.1.mono (by decide), this.2.mono (by decide)⟩
    · exact ⟨g.1.mono (by decide), g.2.mono (by decide)⟩
end
end Vm

/-! ThS: the law's rims. -/
namespace Vm
open PySem L2 Geo
section
variable {tab : Nat → Option Fn}
theorem r_rim [Has tab 38 f_law_draw] [Has tab 39 f_law_common] [Has tab 40 f_law_low] [Has tab 42 f_law_sum] [Has tab 43 f_law_times] [Has tab 45 f_law_often] [Has tab 46 f_law_less] [Has tab 47 f_law_step] [Has tab 48 f_law_far] [Has tab 49 f_law_rim] (k : Nat) {s : Int × Int} (hs : Dr s) :
    ∃ (pts' : List Pt) (s' : Int × Int), run tab (k + 5) 49 [.own (dD s)] = .ret true (ptsL pts') [dD s'] ∧ Dr s' ∧ Rim pts' 3600 1000 := by
  obtain ⟨w, s1, e1, b1, hs⟩ := r_draw (tab := tab) hs 4 (m := 4) rfl (by decide) (by decide) (k + 3)
  by_cases w0 : w = 0
  · obtain ⟨d, s2, e2, b2, hs⟩ := r_draw (tab := tab) hs 13 (m := 13) rfl (by decide) (by decide) (k + 3)
    obtain ⟨pts', s', s1, v, n, s3', s5', s6', s7', s8', t1, t2, t3, t4, t5, r3, r4⟩ := rim_rest (tab := tab) k (d1 := .int (w : Nat)) (s3 := .emp) (ok0 d b2) hs
    refine ⟨pts', s', ?_, r3, r4⟩
    have eb : (base0 d).map ipD = [.tup [.int 0, .int 0], .tup [.int 12, .int 0], .tup [.int (d : Nat), .int 6]] := rfl
    rw [eb] at t1 t5
    rw [run_at (i := 49) inferInstance]
    subst w0
    generalize (base0 d).map ip = P0 at *
    have e1 : run tab (k + 3 + 1) 38 [.own (dD s), .val (.int 4)] = .ret false (.int 0) [dD _] := e1
    have t1 : evE (run tab (k + 4)) [0] _ [.own (dD s2), .val (.int 0), _, _, _, _, _, _, _, _, _] = _ := t1
    have t5 : forS (run tab (k + 4)) [0] false [3] b_law_rim_1 (idxs 0 n) [_, .val (.int 0), _, _, _, _, _, _, _, _, _] = _ := t5
    simp [f_law_rim, e1, e2, t1, t2, t3, t4, t5]
  · by_cases w1 : w = 1
    · obtain ⟨u, s2, e2, b2, hs⟩ := r_draw (tab := tab) hs 4 (m := 4) rfl (by decide) (by decide) (k + 3)
      obtain ⟨u2, s3, e3, b3, hs⟩ := r_draw (tab := tab) hs 4 (m := 4) rfl (by decide) (by decide) (k + 3)
      obtain ⟨pts', s', s1, v, n, s3', s5', s6', s7', s8', t1, t2, t3, t4, t5, r3, r4⟩ := rim_rest (tab := tab) k (d1 := .int (w : Nat)) (s3 := .emp) (ok1 u b2 u2 b3) hs
      refine ⟨pts', s', ?_, r3, r4⟩
      have eb : (base1 u u2).map ipD = [.tup [.int 0, .int 0], .tup [.int (9 + (u : Int)), .int 0], .tup [.int 8, .int (7 + (u2 : Int))], .tup [.int (-1), .int 8]] := rfl
      rw [eb] at t1 t5
      rw [run_at (i := 49) inferInstance]
      subst w1
      generalize (base1 u u2).map ip = P0 at *
      have e1 : run tab (k + 3 + 1) 38 [.own (dD s), .val (.int 4)] = .ret false (.int 1) [dD _] := e1
      have t1 : evE (run tab (k + 4)) [0] _ [.own (dD s3), .val (.int 1), _, _, _, _, _, _, _, _, _] = _ := t1
      have t5 : forS (run tab (k + 4)) [0] false [3] b_law_rim_1 (idxs 0 n) [_, .val (.int 1), _, _, _, _, _, _, _, _, _] = _ := t5
      simp [f_law_rim, e1, e2, e3, t1, t2, t3, t4, t5]
    · obtain ⟨u, s2, e2, b2, hs⟩ := r_draw (tab := tab) hs 6 (m := 6) rfl (by decide) (by decide) (k + 3)
      obtain ⟨pts', s', s1', v, n, s3', s5', s6', s7', s8', t1, t2, t3, t4, t5, r3, r4⟩ := rim_rest (tab := tab) k (d1 := .int (w : Nat)) (s3 := .emp) (ok2 u b2) hs
      refine ⟨pts', s', ?_, r3, r4⟩
      have rl := rng_len (3 + u) (by omega)
      rw [show (((3 + u : Nat)) : Int) = 3 + (u : Int) by omega, idxs_range] at rl
      have cp := comp_src (call := run tab (k + 4)) (refs := [0]) (elt := e_law_rim_2) (tp := false) (ts := [3]) (cond := .none) (src := .rng (.cons (.bin .add (.con (.int 3)) (.call 38 (.ref 0 (.val (.con (.int 6)) .nil)))) .nil)) (xs := List.range (3 + u)) (enc := nD) (e := [.own (dD s1), .val (.int (w : Nat)), .emp, .emp, .emp, .emp, .emp, .emp, .emp, .emp, .emp]) (e1 := [.own (dD s2), .val (.int (w : Nat)), .emp, .emp, .emp, .emp, .emp, .emp, .emp, .emp, .emp]) (fun (x : Nat) => some (ipD ((x : Int), (x : Int) * (x : Int)))) (by simp [e2, rl]) rfl (by simp; omega) (fun x hx => by
        refine ⟨[.own (dD s2), .val (.int (w : Nat)), .emp, .val (nD x), .emp, .emp, .emp, .emp, .emp, .emp, .emp], rfl, rfl, rfl, false, ?_⟩
        have hx := List.mem_range.mp hx
        have m : mulOk (x : Int) (x : Int) = true := mulOk_of (a := 10) (b := 10) (by omega) (by omega) (by decide) (by decide) (by decide)
        simp [e_law_rim_2, nD, m, ipD])
      have eb : (List.range (3 + u)).filterMap (fun (x : Nat) => some (ipD ((x : Int), (x : Int) * (x : Int)))) = (base2 (3 + u)).map ipD := by
        unfold base2
        rw [List.map_map]
        show (List.range (3 + u)).filterMap (some ∘ fun (x : Nat) => ipD ((x : Int), (x : Int) * (x : Int))) = _
        rw [List.filterMap_eq_map]; rfl
      rw [eb] at cp
      generalize (base2 (3 + u)).map ip = P0 at *
      generalize (base2 (3 + u)).map ipD = P1 at *
      rw [run_at (i := 49) inferInstance]
      have w0' : ¬ (w : Int) = 0 := by omega
      have w1' : ¬ (w : Int) = 1 := by omega
      simp [f_law_rim, e1, w0, w1, w0', w1', cp, t1, t2, t3, t4, t5]
end
end Vm

/-! ThT: drawings built. -/
namespace Vm
open PySem L2 Geo
def Inc (ds : Nat) : Nat := 75600 * 256 ^ ds
@[simp] theorem fl_ptsL (x : List Pt) : flat (ptsL x) = false := rfl
@[simp] theorem fl_fcsL (x : List (List Nat)) : flat (fcsL x) = false := rfl
@[simp] theorem okl_fcsH (x : List (List Nat)) : okLend true (fcsL x) = true := by
  show (false || (true && flat.flats (x.map rD))) = true
  rw [fls_map (enc := rD) fl_r]; rfl
@[simp] theorem okl_ptsH (x : List Pt) : okLend true (ptsL x) = true := by
  show (false || (true && flat.flats (x.map pD))) = true
  rw [fls_map (enc := pD) fl_p]; rfl
theorem okl_f (d : D) : okLend false d = flat d := by simp
theorem okl_two (a : List Pt) (b : List (List Nat)) : okLend true (.lst [ptsL a, fcsL b]) = false := rfl
/-- built of a rim of n0 spots, with no more than `inner` further ones -/
structure Bt (n0 inner : Nat) (pts : List Pt) (fs : List (List Nat)) (rim : List Nat) : Prop where
  blt : Blt pts fs rim
  lo : 3 ≤ n0 ∧ n0 ≤ 9 ∧ n0 ≤ pts.length
  hi : pts.length ≤ n0 + inner
  small : inner ≤ 12
  gp : ∃ D, 0 < D ∧ D ≤ 75600 * 256 ^ (pts.length - n0) ∧ ∀ p ∈ pts, Gp D (2 ^ 141) p
theorem bound_pow {D j : Nat} (h : D ≤ 75600 * 256 ^ j) (hj : j ≤ 12) : D < 2 ^ 120 ∧ 2 ^ 141 * 256 * D < 2 ^ 400 := by
  have h1 : 256 ^ j ≤ 256 ^ 12 := Nat.pow_le_pow_right (by decide) hj
  have h2 : D ≤ 75600 * 256 ^ 12 := Nat.le_trans h (Nat.mul_le_mul_left _ h1)
  have h3 : D < 2 ^ 120 := Nat.lt_of_le_of_lt h2 (by decide +kernel)
  refine ⟨h3, ?_⟩
  have h4 : 2 ^ 141 * 256 * D ≤ 2 ^ 141 * 256 * 2 ^ 120 := Nat.mul_le_mul_left _ (Nat.le_of_lt h3)
  exact Nat.lt_of_le_of_lt h4 (by decide +kernel)
theorem Bt.ptd {n0 inner : Nat} {pts : List Pt} {fs : List (List Nat)} {rim : List Nat} (h : Bt n0 inner pts fs rim) : ∀ c, c < pts.length → Sp 490 (pf pts c) := fun c hc => by
  obtain ⟨D, h0, hD, hg⟩ := h.gp
  have hi := h.hi
  have lo := h.lo
  have sm := h.small
  obtain ⟨b1, b2⟩ := bound_pow hD (by omega)
  refine (hg _ (pf_mem hc)).sp h0 (Nat.lt_of_lt_of_le b1 (Nat.pow_le_pow_right (by decide) (by decide))) ?_
  refine Nat.lt_of_le_of_lt (show 2 ^ 141 * D ≤ 2 ^ 141 * 256 * D from Nat.mul_le_mul_right D (Nat.le_mul_of_pos_right _ (by decide))) (Nat.lt_of_lt_of_le b2 (Nat.pow_le_pow_right (by decide) (by decide)))
theorem Bt.ne {n0 inner : Nat} {pts : List Pt} {fs : List (List Nat)} {rim : List Nat} (h : Bt n0 inner pts fs rim) : 0 < fs.length := by
  obtain ⟨f, hf, _⟩ := h.blt.cov 0 (by have := h.lo; omega)
  exact List.length_pos_of_mem hf
section
variable {tab : Nat → Option Fn}
set_option maxHeartbeats 40000000 in
theorem built_loop [Has tab 37 f_law_draws] [Has tab 38 f_law_draw] [Has tab 39 f_law_common] [Has tab 40 f_law_low] [Has tab 42 f_law_sum] [Has tab 43 f_law_times] [Has tab 45 f_law_often] [Has tab 46 f_law_less] [Has tab 47 f_law_step] [Has tab 48 f_law_far] [Has tab 50 f_law_poked] [Has tab 51 f_law_inside] [Has tab 52 f_law_sides] [Has tab 53 f_law_joined] [Has tab 54 f_law_cross] [Has tab 55 f_law_hand] [Has tab 56 f_law_bayless] [Has tab 71 f_law_cut] [Has tab 72 f_law_merged]
    (k : Nat) (ns : List Int) {first inner n0 : Nat} {d2 : D} (hf : first ≤ 1000) :
    ∀ (m j : Nat) (pts : List Pt) (fs : List (List Nat)) (rim : List Nat) (s : Int × Int) (b5 b7 : Bool) (s8 s9 s10 s11 : Slot), j + m ≤ 1000 → Dr s → Bt n0 inner pts fs rim →
      ∃ (pts' : List Pt) (fs' : List (List Nat)) (s' : Int × Int) (b5' b7' : Bool) (s8' s9' s10' s11' : Slot),
        forS (run tab (k + 7)) [] false [8] b_law_built_1 (idxs j m) [.val (.sc ns), .val (.int (first : Nat)), .val d2, .val (.int (inner : Nat)), .own (dD s), slotOf b5 (ptsL pts), .val (.int (n0 : Nat)), slotOf b7 (fcsL fs), s8, s9, s10, s11] =
          .next [.val (.sc ns), .val (.int (first : Nat)), .val d2, .val (.int (inner : Nat)), .own (dD s'), slotOf b5' (ptsL pts'), .val (.int (n0 : Nat)), slotOf b7' (fcsL fs'), s8', s9', s10', s11'] ∧
        Bt n0 inner pts' fs' rim
  | 0, j, pts, fs, rim, s, b5, b7, s8, s9, s10, s11, hj, hs, hb => ⟨pts, fs, s, b5, b7, s8, s9, s10, s11, rfl, hb⟩
  | m + 1, j, pts, fs, rim, s, b5, b7, s8, s9, s10, s11, hj, hs, hb => by
    obtain ⟨s0, e0, hs0⟩ := r_draws (tab := tab) ns (j := first + 1 + j) (by omega) (k + 6)
    have c0 : (((first + 1 + j : Nat)) : Int) = (first : Int) + 1 + (j : Int) := by omega
    rw [c0] at e0
    have nf := hb.blt.nf
    have np := hb.blt.np
    have ne := hb.ne
    obtain ⟨at_, s1, e1, b1, hs1⟩ := r_draw (tab := tab) hs0 (fs.length : Nat) (m := fs.length) rfl ne (by omega) (k + 6)
    obtain ⟨way, s2, e2, b2, hs2⟩ := r_draw (tab := tab) hs1 5 (m := 5) rfl (by decide) (by decide) (k + 6)
    have i1 := ix_rows b1
    have nj : nD j = .int (j : Int) := rfl
    by_cases hw : way < 3 ∧ pts.length < n0 + inner ∧ fs.length + fs[at_].length < 62
    · obtain ⟨D, h0, hD, hg⟩ := hb.gp
      have hi := hb.hi
      have lo := hb.lo
      have sm := hb.small
      obtain ⟨bd1, bd2⟩ := bound_pow hD (by omega)
      have hfl := hb.blt.flen _ (List.getElem_mem b1)
      obtain ⟨q, T, s3, e3, hs3, hq, t0, t1, gq⟩ := r_inside (tab := tab) (k + 2) (P := pf pts) (pd := ptsL pts) (n := pts.length) h0 (Nat.lt_of_lt_of_le bd1 (Nat.pow_le_pow_right (by decide) (by decide))) bd2 (fun c hc => ⟨(ix_pf hc).1, hg _ (pf_mem hc)⟩) (hb.blt.draw.bay _ (List.getElem_mem b1)) (by omega) (hb.blt.lt _ (List.getElem_mem b1)) hs2
      have e4 := r_poked (tab := tab) (k + 6) (pts := pts) (fs := fs) (q := q) b1 (by omega) (by omega) (by omega)
      have hb2 : Bt n0 inner (pts ++ [q]) (fs.take at_ ++ tris fs[at_] pts.length ++ fs.drop (at_ + 1)) rim := by
        refine ⟨hb.blt.poke b1 hq (by omega) hw.2.2, ⟨lo.1, lo.2.1, by simp; omega⟩, by simp; omega, sm, D * T, Nat.mul_pos h0 t0, ?_, fun p hp => ?_⟩
        · rw [List.length_append]
          show _ ≤ 75600 * 256 ^ (pts.length + 1 - n0)
          rw [show pts.length + 1 - n0 = (pts.length - n0) + 1 by omega, Nat.pow_succ, ← Nat.mul_assoc]
          exact Nat.mul_le_mul hD t1
        · rcases List.mem_append.mp hp with hp | hp
          · exact (hg p hp).widen T
          · rw [List.mem_singleton.mp hp]; exact gq
      obtain ⟨pts', fs', s', b5', b7', s8', s9', s10', s11', ih, r⟩ := built_loop k ns (d2 := d2) hf m (j + 1) _ _ rim s3 false false (.val (nD j)) (.val (.int (at_ : Nat))) (.val (.int (way : Nat))) (.val (pD q)) (by omega) hs3 hb2
      refine ⟨pts', fs', s', b5', b7', s8', s9', s10', s11', ?_, r⟩
      have w1 : (way : Int) < 3 := by omega
      have w2 : (pts.length : Int) < (n0 : Int) + (inner : Int) := by omega
      have w3 : (fs.length : Int) + (fs[at_].length : Int) < 62 := by omega
      clear hb2 r
      rw [idxs_succ, forS_cons, ← ih]
      clear ih
      generalize fs.take at_ ++ tris fs[at_] pts.length ++ fs.drop (at_ + 1) = G1 at *
      generalize pts ++ [q] = G2 at *
      generalize fs[at_] = F at *
      have w1' := hw.1
      cases b5 <;> cases b7 <;> simp [slotOf, -ok_lend, okl_f, okl_two, b_law_built_1, nj, e0, e1, e2, i1, w1, w1', w2, w3, e3, e4]
    · have w : ¬ ((way : Int) < 3 ∧ (pts.length : Int) < (n0 : Int) + (inner : Int) ∧ (fs.length : Int) + (fs[at_].length : Int) < 62) := by omega
      by_cases h3 : way = 3
      · obtain ⟨fr, fs1, s3, e3, hs3, hblt⟩ := r_cut (tab := tab) (k + 5) hb.blt b1 hs2
        have hb2 : Bt n0 inner pts fs1 rim := ⟨hblt, hb.lo, hb.hi, hb.small, hb.gp⟩
        obtain ⟨pts', fs', s', b5', b7', s8', s9', s10', s11', ih, r⟩ := built_loop k ns (d2 := d2) hf m (j + 1) pts fs1 rim s3 b5 fr (.val (nD j)) (.val (.int (at_ : Nat))) (.val (.int (way : Nat))) s11 (by omega) hs3 hb2
        refine ⟨pts', fs', s', b5', b7', s8', s9', s10', s11', ?_, r⟩
        rw [idxs_succ, forS_cons, ← ih]
        clear ih w hw
        subst h3
        cases b5 <;> cases b7 <;> cases fr <;> simp [slotOf, -ok_lend, okl_f, okl_two, b_law_built_1, nj, e0, e1, e2, i1, e3]
      · obtain ⟨fr, fs1, s3, e3, hs3, hblt⟩ := r_merged (tab := tab) k hb.blt (ptd_lst hb.ptd) hs2
        have hb2 : Bt n0 inner pts fs1 rim := ⟨hblt, hb.lo, hb.hi, hb.small, hb.gp⟩
        obtain ⟨pts', fs', s', b5', b7', s8', s9', s10', s11', ih, r⟩ := built_loop k ns (d2 := d2) hf m (j + 1) pts fs1 rim s3 (fr && b5) fr (.val (nD j)) (.val (.int (at_ : Nat))) (.val (.int (way : Nat))) s11 (by omega) hs3 hb2
        refine ⟨pts', fs', s', b5', b7', s8', s9', s10', s11', ?_, r⟩
        rw [idxs_succ, forS_cons, ← ih]
        clear ih
        have h3' : ¬ (way : Int) = 3 := by omega
        generalize fs[at_] = F at *
        by_cases u1 : (way : Int) < 3
        · have u1' : way < 3 := by omega
          by_cases u2 : (pts.length : Int) < (n0 : Int) + (inner : Int)
          · have u3 : ¬ (fs.length : Int) + (F.length : Int) < 62 := fun z => w ⟨u1, u2, z⟩
            cases b5 <;> cases b7 <;> cases fr <;> simp [slotOf, -ok_lend, okl_f, okl_two, b_law_built_1, nj, e0, e1, e2, i1, e3, h3, h3', u1, u1', u2, u3]
          · cases b5 <;> cases b7 <;> cases fr <;> simp [slotOf, -ok_lend, okl_f, okl_two, b_law_built_1, nj, e0, e1, e2, i1, e3, h3, h3', u1, u1', u2]
        · have u1' : ¬ way < 3 := by omega
          cases b5 <;> cases b7 <;> cases fr <;> simp [slotOf, -ok_lend, okl_f, okl_two, b_law_built_1, nj, e0, e1, e2, i1, e3, h3, h3', u1, u1']
end
end Vm

/-! ThU: drawings built. -/
namespace Vm
open PySem L2 Geo
section
variable {tab : Nat → Option Fn}
theorem r_built [Has tab 37 f_law_draws] [Has tab 38 f_law_draw] [Has tab 39 f_law_common] [Has tab 40 f_law_low] [Has tab 41 f_law_figures] [Has tab 42 f_law_sum] [Has tab 43 f_law_times] [Has tab 44 f_law_put] [Has tab 45 f_law_often] [Has tab 46 f_law_less] [Has tab 47 f_law_step] [Has tab 48 f_law_far] [Has tab 49 f_law_rim] [Has tab 50 f_law_poked] [Has tab 51 f_law_inside] [Has tab 52 f_law_sides] [Has tab 53 f_law_joined] [Has tab 54 f_law_cross] [Has tab 55 f_law_hand] [Has tab 56 f_law_bayless] [Has tab 71 f_law_cut] [Has tab 72 f_law_merged] [Has tab 73 f_law_built]
    (k : Nat) (ns : List Int) {first most inner : Nat} (hf : first ≤ 1000) (hm : most ≤ 900) (hi : inner ≤ 12) :
    ∃ (pts : List Pt) (fs : List (List Nat)) (n0 : Nat), run tab (k + 8) 73 [.val (.sc ns), .val (.int (first : Nat)), .val (.int (most : Nat)), .val (.int (inner : Nat))] = .ret true (.lst [ptsL pts, fcsL fs]) [] ∧ Bt n0 inner pts fs (List.range n0) := by
  obtain ⟨s0, e0, hs⟩ := r_draws (tab := tab) ns (j := first) (by omega) (k + 6)
  obtain ⟨p1, s1, e1, hs, hrim⟩ := r_rim (tab := tab) (k + 2) hs
  obtain ⟨f, s2, e2, hs, ht, hg⟩ := r_put (tab := tab) (k + 3) (pts := p1) (by have := hrim.hi; omega) hrim.gp hs
  obtain ⟨v, s3, e3, b3, hs⟩ := r_draw (tab := tab) hs ((most : Int) + 1) (m := most + 1) (by omega) (by omega) (by omega) (k + 6)
  have lo := hrim.lo
  have hi9 := hrim.hi
  have hl : (p1.map f).length = p1.length := List.length_map ..
  have hb : Bt (p1.map f).length inner (p1.map f) [List.range (p1.map f).length] (List.range (p1.map f).length) := by
    refine ⟨(ht _ hrim.tri).blt (by omega) (by omega), ⟨by omega, by omega, by omega⟩, by omega, hi, 75600, by decide, ?_, fun p hp => ?_⟩
    · rw [Nat.sub_self]; decide
    · obtain ⟨q, hq, e⟩ := List.mem_map.mp hp
      rw [← e]; exact hg q hq
  obtain ⟨pts', fs', s', b5, b7, s8, s9, s10, s11, lp, r⟩ := built_loop (tab := tab) k ns (first := first) (d2 := .int (most : Nat)) hf v 0 _ _ _ s3 true true .emp .emp .emp .emp (by omega) hs hb
  refine ⟨pts', fs', (p1.map f).length, ?_, r⟩
  have rl1 := rng_len (p1.map f).length (by omega)
  have rl2 := rng_len v (by omega)
  clear r hb
  generalize p1.map f = P2 at *
  have el : D.lst [.tup (idxs 0 P2.length)] = fcsL [List.range P2.length] := by rw [idxs_range]; rfl
  generalize fcsL [List.range P2.length] = F2 at *
  have len : biD .len [ptsL P2] = some (.int (P2.length : Nat)) := by simp
  rw [run_at (i := 73) inferInstance]
  cases b5 <;> cases b7 <;> simp only [slotOf, if_true] at lp <;> simp [-ok_lend, okl_f, f_law_built, e0, e1, e2, e3, rl1, rl2, el, lp, slotOf]
end
end Vm

/-! ThV: drawings numbered anew. -/
namespace Vm
open PySem L2 Geo
theorem RotL.snoc {A H : List (List Nat)} (h : RotL A H) {a b : List Nat} (r : Rot a b) : RotL (A ++ [a]) (H ++ [b]) := by
  induction h with
  | nil => exact .cons r .nil
  | cons r' _ ih => exact .cons r' ih
theorem perm_put {α : Type} (l : List α) (v : Nat) (a : α) : (l.take v ++ [a] ++ l.drop v).Perm (l ++ [a]) := by
  have : (l.take v ++ [a] ++ l.drop v).Perm (l.take v ++ l.drop v ++ [a]) := by
    rw [List.append_assoc, List.append_assoc]
    exact List.Perm.append_left _ List.perm_append_comm
  rwa [List.take_append_drop] at this
theorem ins_map {α : Type} {enc : α → D} {l : List α} {v : Nat} {a : α} (h : l.length < 4000) (hv : v ≤ 4000) : insD (.lst (l.map enc)) (.int (v : Nat)) (enc a) = some (.lst ((l.take v ++ [a] ++ l.drop v).map enc)) := by
  unfold insD
  dsimp only
  rw [if_pos ⟨by rw [List.length_map]; omega, by omega, by rw [Int.toNat_natCast]; exact Nat.lt_of_le_of_lt hv (by decide)⟩, Int.toNat_natCast]
  rw [List.map_append, List.map_append, List.map_take, List.map_drop]; rfl
section
variable {tab : Nat → Option Fn}
def Vs (s : Slot) : Prop := s = .emp ∨ ∃ d, s = .val d
theorem ord_loop [Has tab 38 f_law_draw] (k : Nat) {d0 d1 : D} :
    ∀ (m j : Nat) (O : List Nat) (s : Int × Int) (s4 : Slot), j + m ≤ 1000 → Dr s → O.Perm (List.range j) → Vs s4 →
      ∃ (O' : List Nat) (s' : Int × Int) (s4' : Slot), forS (run tab (k + 1)) [2] false [4] b_law_renumbered_3 (idxs j m) [.val d0, .val d1, .own (dD s), .own (.lst (O.map nD)), s4, .emp, .emp, .emp, .emp, .emp, .emp] =
          .next [.val d0, .val d1, .own (dD s'), .own (.lst (O'.map nD)), s4', .emp, .emp, .emp, .emp, .emp, .emp] ∧ Dr s' ∧ O'.Perm (List.range (j + m)) ∧ Vs s4'
  | 0, j, O, s, s4, _, hs, hp, hv => ⟨O, s, s4, rfl, hs, hp, hv⟩
  | m + 1, j, O, s, s4, hj, hs, hp, hv => by
    obtain ⟨v, s1, e1, b1, hs1⟩ := r_draw (tab := tab) hs ((j : Int) + 1) (m := j + 1) (by omega) (by omega) (by omega) k
    have hl : O.length = j := by rw [hp.length_eq, List.length_range]
    obtain ⟨O', s', s4', ih, r1, r2, r3⟩ := ord_loop k (d0 := d0) (d1 := d1) m (j + 1) (O.take v ++ [j] ++ O.drop v) s1 (.val (nD j)) (by omega) hs1 (((perm_put O v j).trans (hp.append_right [j])).trans (by rw [List.range_succ])) (.inr ⟨_, rfl⟩)
    refine ⟨O', s', s4', ?_, r1, by rwa [show j + (m + 1) = j + 1 + m by omega], r3⟩
    have ins := ins_map (enc := nD) (l := O) (v := v) (a := j) (by omega) (by omega)
    rw [idxs_succ, forS_cons, ← ih]
    clear ih
    have nj : nD j = .int (j : Int) := rfl
    rw [nj] at ins ⊢
    generalize (O.take v ++ [j] ++ O.drop v).map nD = M1 at *
    generalize O.map nD = M2 at *
    simp [b_law_renumbered_3, e1, ins]
def plc (O : List Nat) (j : Nat) : List (Nat × D) := (List.range j).map fun i => (O[i]?.getD 0, nD i)
theorem plc_succ (O : List Nat) {j : Nat} (h : j < O.length) : plc O (j + 1) = plc O j ++ [(O[j], nD j)] := by
  unfold plc
  rw [List.range_succ, List.map_append]
  show _ ++ [(O[j]?.getD 0, nD j)] = _
  rw [List.getElem?_eq_getElem h]; rfl
theorem plc_keys (O : List Nat) : ∀ {j : Nat}, j ≤ O.length → (plc O j).map (·.1) = O.take j
  | 0, _ => by rw [List.take_zero]; rfl
  | j + 1, h => by
    rw [plc_succ O (by omega), List.map_append, plc_keys O (by omega), List.take_add_one, List.getElem?_eq_getElem (by omega)]; rfl
theorem nodup_not_take {O : List Nat} (h : O.Nodup) {j : Nat} (hj : j < O.length) : O[j] ∉ O.take j := by
  rw [← List.take_append_drop j O] at h
  rw [List.nodup_append] at h
  intro z
  refine h.2.2 _ z O[j] ?_ rfl
  rw [List.drop_eq_getElem_cons hj]; exact List.mem_cons_self
theorem plc_loop {call : CallT} {d0 d1 d2 : D} {O : List Nat} (hO : O.Nodup) (hl : O.length ≤ 1000) :
    ∀ (m j : Nat) (s4 : Slot), j + m = O.length → Vs s4 →
      ∃ s4', Vs s4' ∧ forS call [2] false [4] b_law_renumbered_2 (idxs j m) [.val d0, .val d1, .own d2, .own (.lst (O.map nD)), s4, .own (ndD (plc O j)), .emp, .emp, .emp, .emp, .emp] =
          .next [.val d0, .val d1, .own d2, .own (.lst (O.map nD)), s4', .own (ndD (plc O O.length)), .emp, .emp, .emp, .emp, .emp]
  | 0, j, s4, h, hv => ⟨s4, hv, by rw [show O.length = j by omega]; rfl⟩
  | m + 1, j, s4, h, hv => by
    obtain ⟨s4', hv', ih⟩ := plc_loop (call := call) (d0 := d0) (d1 := d1) (d2 := d2) hO hl m (j + 1) (.val (nD j)) (by omega) (.inr ⟨_, rfl⟩)
    refine ⟨s4', hv', ?_⟩
    have hj : j < O.length := by omega
    have i1 : idxD (.lst (O.map nD)) (nD j) = some (nD O[j]) := by rw [ix_nat, List.getElem?_map, List.getElem?_eq_getElem hj]; rfl
    have lp : (plc O j).length = j := by unfold plc; rw [List.length_map, List.length_range]
    have put := put_nd (m := plc O j) (s := O[j]) (v := nD j) (by rw [plc_keys O (by omega)]; exact nodup_not_take hO hj) (by omega)
    rw [← plc_succ O hj] at put
    rw [idxs_succ, forS_cons, ← ih]
    clear ih
    generalize O.map nD = M2 at *
    generalize O[j] = x at *
    simp [b_law_renumbered_2, i1, put]
theorem lk_plc {O : List Nat} (hO : O.Nodup) {x : Nat} (hx : x ∈ O) : lk (plc O O.length) x = some (nD (O.idxOf x)) := by
  have hi := List.idxOf_lt_length_of_mem hx
  refine lk_of (by rw [plc_keys O (Nat.le_refl _), List.take_length]; exact hO) ?_
  refine List.mem_map.mpr ⟨O.idxOf x, List.mem_range.mpr hi, ?_⟩
  rw [List.getElem?_eq_getElem hi, List.getElem_idxOf hi]; rfl
theorem ren_loop [Has tab 38 f_law_draw] (k : Nat) {d0 d1 d3 : D} {s4 : Slot} {O : List Nat} (hO : O.Nodup) {all : List (List Nat)} (hall : all.length ≤ 1000) :
    ∀ (fs done G H : List (List Nat)) (s : Int × Int) (s7 s8 s9 : Slot), done ++ fs = all → (∀ f ∈ fs, 0 < f.length ∧ f.length ≤ 1000 ∧ ∀ x ∈ f, x ∈ O) → Dr s → G.Perm H → RotL (done.map (·.map O.idxOf)) H → G.length = done.length →
      ∃ (G' H' : List (List Nat)) (s' : Int × Int) (s7' s8' s9' : Slot), forS (run tab (k + 1)) [2] false [7] b_law_renumbered_1 (fs.map rD) [.val d0, .val d1, .own (dD s), .own d3, s4, .own (ndD (plc O O.length)), .own (fcsL G), s7, s8, s9, .emp] =
          .next [.val d0, .val d1, .own (dD s'), .own d3, s4, .own (ndD (plc O O.length)), .own (fcsL G'), s7', s8', s9', .emp] ∧ Dr s' ∧ G'.Perm H' ∧ RotL (all.map (·.map O.idxOf)) H'
  | [], done, G, H, s, s7, s8, s9, he, hf, hs, hp, hr, hl => ⟨G, H, s, s7, s8, s9, rfl, hs, hp, by rw [← he, List.append_nil]; exact hr⟩
  | f :: fs, done, G, H, s, s7, s8, s9, he, hf, hs, hp, hr, hl => by
    obtain ⟨f0, f1, fO⟩ := hf f List.mem_cons_self
    obtain ⟨b, s1, e1, b1, hs1⟩ := r_draw (tab := tab) hs (f.length : Nat) (m := f.length) rfl f0 (by omega) k
    have hlen : done.length + (fs.length + 1) = all.length := by rw [← he]; simp
    obtain ⟨v, s2, e2, b2, hs2⟩ := r_draw (tab := tab) hs1 ((G.length : Int) + 1) (m := G.length + 1) (by omega) (by omega) (by omega) k
    have cp := comp_same (call := run tab (k + 1)) (refs := [2]) (elt := e_law_renumbered_2) (tp := false) (ts := [10]) (src := .own 7) (cond := .none) (xs := f) (enc := nD)
      (e := [.val d0, .val d1, .own (dD s1), .own d3, s4, .own (ndD (plc O O.length)), .own (fcsL G), .val (rD f), .val (.int (b : Nat)), s9, .emp]) (fun x => some (nD (O.idxOf x))) (by simp) rfl (by omega) (fun x hx => by
        refine ⟨[.val d0, .val d1, .own (dD s1), .own d3, s4, .own (ndD (plc O O.length)), .own (fcsL G), .val (rD f), .val (.int (b : Nat)), s9, .val (nD x)], rfl, rfl, rfl, false, ?_⟩
        have := (ix_nd (plc O O.length) x).trans (lk_plc hO (fO x hx))
        simp [e_law_renumbered_2, this])
    have ef : f.filterMap (fun x => some (nD (O.idxOf x))) = (f.map O.idxOf).map nD := by
      rw [List.map_map]
      show f.filterMap (some ∘ (nD ∘ O.idxOf)) = _
      rw [List.filterMap_eq_map]
    rw [ef] at cp
    have lr : (f.map O.idxOf).length = f.length := List.length_map ..
    have rot : Rot (f.map O.idxOf) ((f.map O.idxOf).drop b ++ (f.map O.idxOf).take b) := ⟨(f.map O.idxOf).take b, (f.map O.idxOf).drop b, (List.take_append_drop _ _).symm, rfl⟩
    have f1' := slc_r_from (f.map O.idxOf) b
    have t1' := slc_r_to (f.map O.idxOf) b
    have ad1 := add_r (l := (f.map O.idxOf).drop b) (m := (f.map O.idxOf).take b) (by
      intro z
      have := congrArg List.length z
      rw [List.length_drop] at this
      have : (f.map O.idxOf).length - b = 0 := this
      omega) (by rw [List.length_drop, List.length_take]; omega)
    have tupe : biD .tuple [.lst ((f.map O.idxOf).map nD)] = some (rD (f.map O.idxOf)) := rfl
    have ins := ins_map (enc := rD) (l := G) (v := v) (a := (f.map O.idxOf).drop b ++ (f.map O.idxOf).take b) (by omega) (by omega)
    have hG : (G.take v ++ [(f.map O.idxOf).drop b ++ (f.map O.idxOf).take b] ++ G.drop v).Perm (H ++ [(f.map O.idxOf).drop b ++ (f.map O.idxOf).take b]) := (perm_put G v _).trans (hp.append_right _)
    obtain ⟨G', H', s', s7', s8', s9', ih, r1, r2, r3⟩ := ren_loop k (d0 := d0) (d1 := d1) (d3 := d3) (s4 := s4) hO hall fs (done ++ [f]) _ _ s2 (.val (rD f)) (.val (.int (b : Nat))) (.val (rD (f.map O.idxOf))) (by rw [List.append_assoc]; exact he) (fun g hg => hf g (List.mem_cons_of_mem _ hg)) hs2 hG (by rw [List.map_append]; exact RotL.snoc hr rot) (by
      rw [List.length_append, List.length_append, List.length_take, List.length_drop, List.length_append]; simp; omega)
    refine ⟨G', H', s', s7', s8', s9', ?_, r1, r2, r3⟩
    clear hG r2 r3 rot
    have len : biD .len [fcsL G] = some (.int (G.length : Nat)) := by simp
    unfold fcsL at *
    generalize f.map O.idxOf = R at *
    generalize R.drop b = R1 at *
    generalize R.take b = R2 at *
    generalize (G.take v ++ [R1 ++ R2] ++ G.drop v).map rD = G2 at *
    generalize R.map nD = R3 at *
    rw [List.map_cons, forS_cons, ← ih]
    clear ih
    generalize G.map rD = G3 at *
    simp [b_law_renumbered_1, e1, cp, tupe, len, e2, f1', t1', ad1, ins]
end
end Vm

/-! ThW: the law's drawings. -/
namespace Vm
open PySem L2 Geo
theorem pf_map {O : List Nat} {P : Nat → Pt} {x : Nat} (hx : x ∈ O) : pf (O.map P) (O.idxOf x) = P x := by
  have hi := List.idxOf_lt_length_of_mem hx
  rw [pf_eq (by rw [List.length_map]; exact hi), List.getElem_map, List.getElem_idxOf hi]
theorem idxOf_inj' {O : List Nat} {x y : Nat} (hx : x ∈ O) (hy : y ∈ O) (h : O.idxOf x = O.idxOf y) : x = y := by
  have h1 := List.getElem_idxOf (List.idxOf_lt_length_of_mem hx)
  have h2 := List.getElem_idxOf (List.idxOf_lt_length_of_mem hy)
  rw [← h1, ← h2]
  exact getElem_congr_idx h
theorem Blt.ren {pts : List Pt} {fs : List (List Nat)} {rim O : List Nat} {G H : List (List Nat)} (h : Blt pts fs rim) (hO : O.Perm (List.range pts.length)) (hp : G.Perm H) (hr : RotL (fs.map (·.map O.idxOf)) H) : Blt (O.map (pf pts)) G (rim.map O.idxOf) := by
  have mem : ∀ {x}, x < pts.length → x ∈ O := fun hx => hO.mem_iff.mpr (List.mem_range.mpr hx)
  have lO : O.length = pts.length := by rw [hO.length_eq, List.length_range]
  have d1 := h.draw.map (Q := pf (O.map (pf pts))) (φ := O.idxOf) (fun f hf x hx => pf_map (mem (h.lt f hf x hx))) (fun f hf x hx g hg y hy e => idxOf_inj' (mem (h.lt f hf x hx)) (mem (h.lt g hg y hy)) e)
  have d2 := (d1.rotL hr).perm hp.symm
  have lH : H.length = fs.length := by
    have : ∀ {A B : List (List Nat)}, RotL A B → B.length = A.length := fun h => by
      induction h with
      | nil => rfl
      | cons _ _ ih => rw [List.length_cons, List.length_cons, ih]
    rw [this hr, List.length_map]
  refine ⟨d2, fun g hg x hx => ?_, by rw [List.length_map, lO]; exact h.np, by rw [hp.length_eq, lH]; exact h.nf, fun x hx => ?_⟩
  · obtain ⟨f, hf, rot⟩ := hr.mem g (hp.mem_iff.mp hg)
    obtain ⟨f0, hf0, rfl⟩ := List.mem_map.mp hf
    obtain ⟨y, hy, rfl⟩ := List.mem_map.mp (rot.mem.mp hx)
    rw [List.length_map]
    exact List.idxOf_lt_length_of_mem (mem (h.lt f0 hf0 y hy))
  · rw [List.length_map] at hx
    have hy : O[x] < pts.length := List.mem_range.mp (hO.mem_iff.mp (List.getElem_mem hx))
    obtain ⟨f, hf, hyf⟩ := h.cov _ hy
    have ix : O.idxOf O[x] = x := (hO.nodup_iff.mpr List.nodup_range).idxOf_getElem x hx
    have e : ∀ {A B : List (List Nat)}, RotL A B → ∀ a ∈ A, ∃ b ∈ B, Rot a b := fun h => by
      induction h with
      | nil => intro a ha; exact nomatch ha
      | cons r _ ih =>
        intro a ha
        rcases List.mem_cons.mp ha with e | ha
        · exact ⟨_, List.mem_cons_self, e ▸ r⟩
        · obtain ⟨b, hb, r⟩ := ih a ha
          exact ⟨b, List.mem_cons_of_mem _ hb, r⟩
    obtain ⟨g, hg, rot⟩ := e hr _ (List.mem_map.mpr ⟨f, hf, rfl⟩)
    exact ⟨g, hp.mem_iff.mpr hg, rot.mem.mpr (ix ▸ List.mem_map.mpr ⟨_, hyf, rfl⟩)⟩
theorem RotL.least : ∀ fs : List (List Nat), RotL fs (fs.map fromLeast)
  | [] => .nil
  | f :: fs => .cons (rotAt_rot f _) (RotL.least fs)
theorem Blt.least {pts : List Pt} {fs : List (List Nat)} {rim : List Nat} (h : Blt pts fs rim) : Blt pts (sortR (fs.map fromLeast)) rim := by
  have hp : (sortR (fs.map fromLeast)).Perm (fs.map fromLeast) := List.mergeSort_perm _ _
  have d := (h.draw.rotL (RotL.least fs)).perm hp.symm
  refine ⟨d, fun g hg x hx => ?_, h.np, by rw [hp.length_eq, List.length_map]; exact h.nf, fun x hx => ?_⟩
  · obtain ⟨f, hf, rfl⟩ := List.mem_map.mp (hp.mem_iff.mp hg)
    exact h.lt f hf x ((rotAt_rot f _).mem.mp hx)
  · obtain ⟨f, hf, hxf⟩ := h.cov x hx
    exact ⟨fromLeast f, hp.mem_iff.mpr (List.mem_map.mpr ⟨f, hf, rfl⟩), (rotAt_rot f _).mem.mpr hxf⟩
section
variable {tab : Nat → Option Fn}
theorem r_renumbered [Has tab 38 f_law_draw] [Has tab 59 f_law_renumbered] (k : Nat) {pts : List Pt} {fs : List (List Nat)} {rim : List Nat} (h : Blt pts fs rim) {s : Int × Int} (hs : Dr s) :
    ∃ (O : List Nat) (G : List (List Nat)) (s' : Int × Int), run tab (k + 2) 59 [.val (ptsL pts), .val (fcsL fs), .own (dD s)] = .ret true (.lst [ptsL (O.map (pf pts)), fcsL G]) [dD s'] ∧ Dr s' ∧ O.Perm (List.range pts.length) ∧ Blt (O.map (pf pts)) G (rim.map O.idxOf) := by
  have np := h.np
  have nf := h.nf
  obtain ⟨O, s1, s4, lp1, hs1, hO, hv⟩ := ord_loop (tab := tab) k (d0 := ptsL pts) (d1 := fcsL fs) pts.length 0 [] s .emp (by omega) hs (List.Perm.refl _) (.inl rfl)
  rw [Nat.zero_add] at hO
  have nO : O.Nodup := hO.nodup_iff.mpr List.nodup_range
  have lO : O.length = pts.length := by rw [hO.length_eq, List.length_range]
  obtain ⟨s4', hv', lp2⟩ := plc_loop (call := run tab (k + 1)) (d0 := ptsL pts) (d1 := fcsL fs) (d2 := dD s1) nO (by omega) O.length 0 s4 (by omega) hv
  have mem : ∀ {x}, x < pts.length → x ∈ O := fun hx => hO.mem_iff.mpr (List.mem_range.mpr hx)
  obtain ⟨G, H, s2, s7, s8, s9, lp3, hs2, hp, hr⟩ := ren_loop (tab := tab) k (d0 := ptsL pts) (d1 := fcsL fs) (d3 := .lst (O.map nD)) (s4 := s4') nO (all := fs) (by omega) fs [] [] [] s1 .emp .emp .emp rfl (fun f hf => ⟨by have := (h.draw.bay f hf).len; omega, by have := h.flen f hf; omega, fun x hx => mem (h.lt f hf x hx)⟩) hs1 (List.Perm.refl _) .nil rfl
  refine ⟨O, G, s2, ?_, hs2, hO, h.ren hO hp hr⟩
  have cp := comp_own (call := run tab (k + 1)) (refs := [2]) (elt := e_law_renumbered_1) (tp := false) (ts := [4]) (i := 3) (cond := .none) (xs := O) (enc := nD)
    (e := [.val (ptsL pts), .val (fcsL fs), .own (dD s2), .own (.lst (O.map nD)), s4', .own (ndD (plc O O.length)), .own (fcsL G), s7, s8, s9, .emp]) (fun x => some (pD (pf pts x))) rfl (by decide) (by rcases hv' with rfl | ⟨d, rfl⟩ <;> rfl) (by omega) (fun x hx => by
      refine ⟨[.val (ptsL pts), .val (fcsL fs), .own (dD s2), .own (.lst (O.map nD)), .val (nD x), .own (ndD (plc O O.length)), .own (fcsL G), s7, s8, s9, .emp], rfl, rfl, rfl, false, ?_⟩
      have := (ix_pf (l := pts) (List.mem_range.mp (hO.mem_iff.mp hx))).1
      simp [e_law_renumbered_1, this])
  have ef : O.filterMap (fun x => some (pD (pf pts x))) = (O.map (pf pts)).map pD := by
    rw [List.map_map]
    show O.filterMap (some ∘ (pD ∘ pf pts)) = _
    rw [List.filterMap_eq_map]
  rw [ef] at cp
  have ep : D.lst ((O.map (pf pts)).map pD) = ptsL (O.map (pf pts)) := rfl
  rw [ep] at cp
  have rl1 := rng_len pts.length (by omega)
  have rl2 := rng_len O.length (by omega)
  have len : biD .len [.lst (O.map nD)] = some (.int (O.length : Nat)) := by simp
  have z1 : D.lst (([] : List Nat).map nD) = .lst [] := rfl
  have z2 : ndD (plc O 0) = .dk [] := rfl
  have z3 : fcsL [] = .lst [] := rfl
  rw [z1] at lp1
  rw [z2] at lp2
  rw [z3] at lp3
  clear hr
  generalize ndD (plc O O.length) = PD at *
  generalize O.map (pf pts) = P2 at *
  generalize O.map nD = OD at *
  generalize O.length = OL at *
  rw [run_at (i := 59) inferInstance]
  simp [-ok_lend, okl_f, f_law_renumbered, rl1, rl2, len, lp1, lp2, lp3, cp]
end
end Vm

/-! ThX: the law's drawings. -/
namespace Vm
open PySem L2 Geo
/-- a drawing as it is due -/
def drD (pts : List Pt) (fs : List (List Nat)) : D := .tup [ptsT pts, fcsT fs]
structure Drawn (pts : List Pt) (fs : List (List Nat)) (rim : List Nat) : Prop where
  blt : Blt pts fs rim
  nd : rim.Nodup
  lo : 3 ≤ rim.length
  hi : rim.length ≤ 9
  lt : ∀ x ∈ rim, x < pts.length
  sp : ∀ c, c < pts.length → Sp 262 (pf pts c)
theorem Bt.sp262 {n0 inner : Nat} {pts : List Pt} {fs : List (List Nat)} {rim : List Nat} (h : Bt n0 inner pts fs rim) : ∀ p ∈ pts, Sp 262 p := fun p hp => by
  obtain ⟨D, h0, hD, hg⟩ := h.gp
  have hi := h.hi
  have lo := h.lo
  have sm := h.small
  obtain ⟨b1, b2⟩ := bound_pow hD (by omega)
  refine (hg p hp).sp h0 (Nat.lt_of_lt_of_le b1 (Nat.pow_le_pow_right (by decide) (by decide))) ?_
  refine Nat.lt_of_le_of_lt (Nat.mul_le_mul_left (2 ^ 141) (Nat.le_of_lt b1)) ?_
  rw [← Nat.pow_add]
  exact Nat.pow_lt_pow_right (by decide) (by decide)
section
variable {tab : Nat → Option Fn}
theorem r_from_least [Has tab 60 f_law_from_least] (k : Nat) {f : List Nat} (h : 3 ≤ f.length) (hl : f.length ≤ 4000) : run tab (k + 1) 60 [.val (rD f)] = .ret false (rD (fromLeast f)) [] := by
  have h0 : f ≠ [] := by intro z; subst z; simp at h
  have m := (minN_mem h0).1
  have rc := rcv_r (f := f) (by omega)
  have mi := min_r h0
  have ix : mthD .index (rD f) [nD (minN f)] = some (nD (f.idxOf (minN f))) := idx_of m (by omega)
  have a := rotAt_add m hl
  have s1 := slc_r_from f (f.idxOf (minN f))
  have s2 := slc_r_to f (f.idxOf (minN f))
  have tu : biD .tuple [rD (rotAt f (minN f))] = some (rD (rotAt f (minN f))) := rfl
  unfold fromLeast
  rw [run_at (i := 60) inferInstance]
  generalize f.idxOf (minN f) = I at *
  generalize rotAt f (minN f) = R at *
  have nI : nD I = .int (I : Int) := rfl
  rw [nI] at ix
  simp [f_law_from_least, mi, rc, ix, s1, s2, a, tu]
theorem r_due [Has tab 60 f_law_from_least] [Has tab 61 f_law_due] (k : Nat) {pts : List Pt} {fs : List (List Nat)} (h : ∀ f ∈ fs, 3 ≤ f.length ∧ f.length ≤ 4000) (hn : fs.length ≤ 4000) : run tab (k + 2) 61 [.val (ptsL pts), .val (fcsL fs)] = .ret false (drD pts (sortR (fs.map fromLeast))) [] := by
  have cp := comp_same (call := run tab (k + 1)) (refs := []) (elt := e_law_due_1) (tp := false) (ts := [2]) (src := .own 1) (cond := .none) (xs := fs) (enc := rD) (e := [.val (ptsL pts), .val (fcsL fs), .emp]) (fun f => some (rD (fromLeast f))) (by simp) rfl (by omega) (fun f hf => by
    refine ⟨[.val (ptsL pts), .val (fcsL fs), .val (rD f)], rfl, rfl, rfl, false, ?_⟩
    have := r_from_least (tab := tab) k (h f hf).1 (h f hf).2
    simp [e_law_due_1, this])
  have ef : fs.filterMap (fun f => some (rD (fromLeast f))) = (fs.map fromLeast).map rD := by
    rw [List.map_map]
    show fs.filterMap (some ∘ (rD ∘ fromLeast)) = _
    rw [List.filterMap_eq_map]
  rw [ef] at cp
  have so := sort_fcs (fs := fs.map fromLeast) (fun f hf => by
    obtain ⟨g, hg, rfl⟩ := List.mem_map.mp hf
    intro z
    have := congrArg List.length z
    unfold fromLeast at this
    rw [rotAt_len] at this
    have := (h g hg).1
    have : g.length = 0 := by assumption
    omega)
  have t1 : biD .tuple [ptsL pts] = some (ptsT pts) := rfl
  have t2 : ∀ x, biD .tuple [fcsL x] = some (fcsT x) := fun _ => rfl
  have ez : D.lst ((fs.map fromLeast).map rD) = fcsL (fs.map fromLeast) := rfl
  rw [ez] at cp
  rw [run_at (i := 61) inferInstance]
  generalize fs.map fromLeast = G at *
  simp [f_law_due, t1, t2, cp, so, drD]
theorem r_drawing [Has tab 37 f_law_draws] [Has tab 38 f_law_draw] [Has tab 39 f_law_common] [Has tab 40 f_law_low] [Has tab 41 f_law_figures] [Has tab 42 f_law_sum] [Has tab 43 f_law_times] [Has tab 44 f_law_put] [Has tab 45 f_law_often] [Has tab 46 f_law_less] [Has tab 47 f_law_step] [Has tab 48 f_law_far] [Has tab 49 f_law_rim] [Has tab 50 f_law_poked] [Has tab 51 f_law_inside] [Has tab 52 f_law_sides] [Has tab 53 f_law_joined] [Has tab 54 f_law_cross] [Has tab 55 f_law_hand] [Has tab 56 f_law_bayless] [Has tab 59 f_law_renumbered] [Has tab 60 f_law_from_least] [Has tab 61 f_law_due] [Has tab 71 f_law_cut] [Has tab 72 f_law_merged] [Has tab 73 f_law_built] [Has tab 74 f_law_drawing]
    (k : Nat) (ns : List Int) {first most inner : Nat} (hf : first ≤ 1000) (hm : most ≤ 900) (hi : inner ≤ 12) :
    ∃ (pts : List Pt) (fs : List (List Nat)) (rim : List Nat), run tab (k + 9) 74 [.val (.sc ns), .val (.int (first : Nat)), .val (.int (most : Nat)), .val (.int (inner : Nat))] = .ret false (drD pts fs) [] ∧ Drawn pts fs rim := by
  obtain ⟨s, e0, hs⟩ := r_draws (tab := tab) ns (j := first + most + 1) (by omega) (k + 7)
  obtain ⟨p1, f1, n0, e1, hb⟩ := r_built (tab := tab) k ns hf hm hi
  obtain ⟨O, G, s', e2, hs', hO, hb2⟩ := r_renumbered (tab := tab) (k + 6) hb.blt hs
  have lO : O.length = p1.length := by rw [hO.length_eq, List.length_range]
  have e3 := r_due (tab := tab) (k + 6) (pts := O.map (pf p1)) (fs := G) (fun f hf => ⟨(hb2.draw.bay f hf).len, by have := hb2.flen f hf; omega⟩) (by have := hb2.nf; omega)
  have lo := hb.lo
  have mem : ∀ x ∈ List.range n0, x ∈ O := fun x hx => hO.mem_iff.mpr (List.mem_range.mpr (by have := List.mem_range.mp hx; omega))
  refine ⟨_, _, _, ?_, hb2.least, ?_, by simp; omega, by simp; omega, fun x hx => ?_, fun c hc => ?_⟩
  · have c0 : (((first + most + 1 : Nat)) : Int) = (first : Int) + (most : Int) + 1 := by omega
    rw [c0] at e0
    rw [run_at (i := 74) inferInstance]
    generalize O.map (pf p1) = P2 at *
    simp [-ok_lend, okl_f, f_law_drawing, e0, e1, e2, e3]
  · refine List.Pairwise.map _ (R := fun a b => a ∈ List.range n0 ∧ b ∈ List.range n0 ∧ a ≠ b) (fun a b h e => h.2.2 (idxOf_inj' (mem a h.1) (mem b h.2.1) e)) ?_
    have : (List.range n0).Pairwise (fun a b => a ≠ b) := List.nodup_range
    exact this.imp_of_mem fun ha hb h => ⟨ha, hb, h⟩
  · obtain ⟨y, hy, rfl⟩ := List.mem_map.mp hx
    rw [List.length_map]
    exact List.idxOf_lt_length_of_mem (mem y hy)
  · rw [List.length_map] at hc
    have hy : O[c] < p1.length := List.mem_range.mp (hO.mem_iff.mp (List.getElem_mem hc))
    rw [pf_eq (by rw [List.length_map]; exact hc), List.getElem_map]
    exact hb.sp262 _ (pf_mem hy)
end
end Vm

/-! ThY: motions. -/
namespace Vm
open PySem L2 Geo
section
variable {call : CallT} {refs : List Nat} {e : Env}
@[simp] theorem as6 (a : E) (r : As) : evAs call refs (.mov a r) e = (evE call refs a e).bind fun p e => if p.1 = true then (evAs call refs r e).bind fun l e => .ok (.m p.2 :: l) e else .bad := by simp only [evAs]
@[simp] theorem st_xpr' (a : E) : evS call (.xpr a) refs e = (evE call refs a e).to fun _ e => .next e := by simp only [evS]
theorem st_tryk' (i : Nat) (xs : List Ex) (b : Ss) (h : List (Nat × Bool × List (Option Ex))) : evS call (.tryk i xs b h) refs e = match evSs call b refs e with
      | .exc x e => if e.length ≤ i ∨ x ∉ xs ∨ i ∈ refs then .bad else (hndl refs x h (e.set i .emp)).then fun e => .next (e.set i .emp)
      | r => r := by first | (simp only [evS]; done) | (simp only [evS]; rfl)
end
theorem asInts_n : ∀ l : List Nat, asInts (l.map nD) = some (cI l) := ints_r
theorem in_r (x : Nat) (l : List Nat) : inD (nD x) (rD l) = some (decide (x ∈ l)) := by
  show ((asInts (l.map nD)).map fun ns => ns.any (· == (x : Int))) = _
  rw [asInts_n, Option.map_some]
  congr 1
  unfold cI
  rw [Bool.eq_iff_iff, List.any_eq_true, decide_eq_true_eq]
  constructor
  · rintro ⟨y, hy, h⟩
    obtain ⟨z, hz, rfl⟩ := List.mem_map.mp hy
    have : (z : Int) = x := by simpa using h
    have : z = x := by omega
    exact this ▸ hz
  · intro h
    exact ⟨x, List.mem_map.mpr ⟨x, h, rfl⟩, by simp⟩
theorem Drawn.rimmed {pts : List Pt} {fs : List (List Nat)} {rim : List Nat} (h : Drawn pts fs rim) : Rimmed (allSteps fs) rim := ⟨h.nd, h.blt.draw.nodup, h.blt.draw.bd⟩
theorem Drawn.ne {pts : List Pt} {fs : List (List Nat)} {rim : List Nat} (h : Drawn pts fs rim) : rim ≠ [] := by
  intro z
  have := h.lo
  rw [z] at this
  simp at this
theorem Drawn.np {pts : List Pt} {fs : List (List Nat)} {rim : List Nat} (h : Drawn pts fs rim) : 3 ≤ pts.length ∧ pts.length ≤ 40 := by
  refine ⟨?_, h.blt.np⟩
  have := nodup_le _ rim h.nd h.lt
  have := h.lo
  omega
theorem fl_least (l : List Nat) (x : Nat) : x ∈ fromLeast l ↔ x ∈ l := (rotAt_rot l _).mem
section
variable {tab : Nat → Option Fn}
def inners (n : Nat) (rim : List Nat) : List Nat := (List.range n).filter fun x => !decide (x ∈ rim)
theorem r_lrim [Has tab 66 f_law_rim_of] (k : Nat) {pts : List Pt} {fs : List (List Nat)} {rim : List Nat} (h : Drawn pts fs rim) : run tab (k + 1) 66 [.val (fcsT fs)] = .ret false (rD (fromLeast rim)) [] :=
  r_rim_of k (Fc.tup fs) h.rimmed h.ne h.blt.fok.sl h.blt.fok.el
theorem r_inner [Has tab 66 f_law_rim_of] [Has tab 67 f_law_inner] (k : Nat) {pts : List Pt} {fs : List (List Nat)} {rim : List Nat} (h : Drawn pts fs rim) : run tab (k + 2) 67 [.val (ptsT pts), .val (fcsT fs)] = .ret true (.lst ((inners pts.length (fromLeast rim)).map nD)) [] := by
  have hr := r_lrim (tab := tab) k h
  have np := h.np
  have rl := rng_len pts.length (by omega)
  have cp := comp_same (call := run tab (k + 1)) (refs := []) (elt := e_law_inner_1) (tp := false) (ts := [3]) (src := .rng (.cons (.bi .len (.cons (.var 0) .nil)) .nil)) (cond := t_law_inner_1) (xs := List.range pts.length) (enc := nD)
    (e := [.val (ptsT pts), .val (fcsT fs), .val (rD (fromLeast rim)), .emp]) (fun x => if x ∈ fromLeast rim then none else some (nD x)) (by simp [rl, idxs_range]) rfl (by simp; omega) (fun x hx => by
      refine ⟨[.val (ptsT pts), .val (fcsT fs), .val (rD (fromLeast rim)), .val (nD x)], rfl, rfl, ?_⟩
      have i := in_r x (fromLeast rim)
      by_cases hm : x ∈ fromLeast rim
      · rw [if_pos hm]
        simp [t_law_inner_1, i, hm]
      · rw [if_neg hm]
        exact ⟨by simp [t_law_inner_1, i, hm], false, by simp [e_law_inner_1]⟩)
  have ef : (List.range pts.length).filterMap (fun x => if x ∈ fromLeast rim then none else some (nD x)) = (inners pts.length (fromLeast rim)).map nD := by
    unfold inners
    rw [← List.filterMap_eq_map, List.filterMap_filter]
    congr 1
    funext x
    by_cases hm : x ∈ fromLeast rim <;> simp [hm]
  rw [ef] at cp
  rw [run_at (i := 67) inferInstance]
  generalize (inners pts.length (fromLeast rim)).map nD = M at *
  simp [f_law_inner, hr, cp]
/-! ### _law_motion -/
theorem mul_pts (p : Pt) {n : Nat} (h : n ≤ 40) : binD .mul (.lst [pD p]) (.int (n : Nat)) = some (ptsL (List.replicate n p)) := by
  show (if (n : Int) < 4096 ∧ -4096 < (n : Int) ∧ ([pD p] : List D).length ≤ 4096 then some (D.lst (List.replicate (n : Int).toNat [pD p]).flatten) else none) = _
  rw [if_pos ⟨by omega, by omega, by simp⟩, Int.toNat_natCast]
  unfold ptsL
  rw [List.map_replicate]
  congr 2
  exact List.flatten_replicate_singleton
theorem set_pts {l : List Pt} {i : Nat} (h : i < l.length) (p : Pt) : setD (ptsL l) (nD i) (pD p) = some (ptsL (l.set i p)) := by
  show (ixN (l.map pD).length (i : Int)).map _ = _
  unfold ixN
  rw [if_pos (by omega), if_pos (by rw [List.length_map]; omega), Int.toNat_natCast, Option.map_some, ← List.map_set]; rfl
/-- a motion of a drawing -/
structure Mo (n : Nat) (mo : List Pt) : Prop where
  len : mo.length = n
  sp : ∀ p ∈ mo, Sp 540 p
theorem Mo.set {n : Nat} {mo : List Pt} (h : Mo n mo) {i : Nat} {p : Pt} (hp : Sp 540 p) : Mo n (mo.set i p) := ⟨by rw [List.length_set]; exact h.len, fun q hq => by
  rcases List.mem_or_eq_of_mem_set hq with h1 | h1
  · exact h.sp q h1
  · rw [h1]; exact hp⟩
theorem ow_steps {f : Env → SR} {st : D → Env → Res Unit} {i m : Nat} {l : List D} (R : Nat → Env → Prop) (hown : ∀ n e, R n e → e[i]? = some (.own (.lst l))) (step : ∀ n (h : n < l.length) e, R n e → ∃ e', ((st l[n] e).to fun _ e => f e) = .next e' ∧ R (n + 1) e') :
    ∀ (k n : Nat) (e : Env), R n e → n ≤ l.length → l.length ≤ k + n → ∃ e', forL f st (.ow i m) k n e = .next e' ∧ R l.length e' := by
  intro k
  induction k with
  | zero =>
    intro n e hR h1 h2
    have : n = l.length := by omega
    subst this
    exact ⟨e, forO_nil (hown _ _ hR) 0, hR⟩
  | succ k ih =>
    intro n e hR h1 h2
    by_cases hn : n < l.length
    · obtain ⟨e', s1, s2⟩ := step n hn e hR
      obtain ⟨e2, s3, s4⟩ := ih (n + 1) e' s2 hn (by omega)
      refine ⟨e2, ?_, s4⟩
      rw [forO_cons (hown _ _ hR) (List.getElem?_eq_getElem hn) k, ← s3]
      cases q : st l[n] e with
      | ok u e3 =>
        rw [q] at s1
        have s1 : f e3 = .next e' := s1
        show (f e3).then _ = _
        rw [s1]; rfl
      | exc x e3 => rw [q] at s1; exact nomatch s1
      | bad => rw [q] at s1; exact nomatch s1
    · have : n = l.length := by omega
      subst this
      exact ⟨e, forO_nil (hown _ _ hR) _, hR⟩
theorem mo_loop [Has tab 38 f_law_draw] [Has tab 39 f_law_common] [Has tab 40 f_law_low] [Has tab 41 f_law_figures] [Has tab 43 f_law_times] [Has tab 45 f_law_often] [Has tab 46 f_law_less] [Has tab 47 f_law_step] (k : Nat) {pts : List Pt} {d2 : D} {way : Nat} {goal : Pt} {many : Rat} (hp : ∀ c, c < pts.length → Sp 262 (pf pts c)) (hg : Sp 262 goal) (hm : Sz 5 many) {m : Nat} {I : List Nat} (hI : ∀ x ∈ I, x < pts.length) {s : Int × Int} {mo : List Pt} (hs : Dr s) (hmo : Mo pts.length mo) (hm2 : (I.map nD).length ≤ m) :
      ∃ (mo' : List Pt) (s' : Int × Int) (s8' : Slot), forL (fun e => evSs (run tab (k + 4)) b_law_motion_1 [3, 0] e) (stoT [3, 0] false [8]) (.ow 3 m) m 0 [.own (dD s), .val (ptsT pts), .val d2, .own (.lst (I.map nD)), .val (.int (way : Nat)), .val (pD goal), .val (qD many), .own (ptsL mo), .emp, .emp] =
          .next [.own (dD s'), .val (ptsT pts), .val d2, .own (.lst (I.map nD)), .val (.int (way : Nat)), .val (pD goal), .val (qD many), .own (ptsL mo'), s8', .emp] ∧ Dr s' ∧ Mo pts.length mo' := by
  obtain ⟨e', h1, mo', s', s8', rfl, h2, h3⟩ := ow_steps (f := fun e => evSs (run tab (k + 4)) b_law_motion_1 [3, 0] e) (st := stoT [3, 0] false [8]) (i := 3) (m := m) (l := I.map nD)
    (fun _ e => ∃ (mo : List Pt) (s : Int × Int) (s8 : Slot), e = [.own (dD s), .val (ptsT pts), .val d2, .own (.lst (I.map nD)), .val (.int (way : Nat)), .val (pD goal), .val (qD many), .own (ptsL mo), s8, .emp] ∧ Dr s ∧ Mo pts.length mo)
    (by rintro n e ⟨mo, s, s8, rfl, _, _⟩; rfl) (by
      rintro n hn e ⟨mo, s, s8, rfl, hs, hmo⟩
      have hn' : n < I.length := by rw [List.length_map] at hn; exact hn
      have hx := hI _ (List.getElem_mem hn')
      rw [List.getElem_map]
      generalize I[n] = x at *
      generalize I.map nD = IM at *
      have lm := hmo.len
      by_cases w0 : way = 0
      · obtain ⟨v1, s1, e1, b1, hs⟩ := r_draw (tab := tab) hs 9 (m := 9) rfl (by decide) (by decide) (k + 3)
        obtain ⟨v2, s2, e2, b2, hs⟩ := r_figures (tab := tab) hs (m := 3) (by decide) (by decide) (k + 2)
        have e2 : run tab (k + 4) 41 [.own (dD s1), .val (.int 3)] = .ret false (.int v2) [dD s2] := e2
        have h3 : (3 : Int) ≠ 0 := by decide
        obtain ⟨dl1, dl2⟩ := divInt_le (a := (v1 : Int) - 4) h3
        have sz1 : Sz 10 (Rat.divInt ((v1 : Int) - 4) 3) := ⟨by omega, by omega⟩
        have low := r_low (tab := tab) (k + 2) (a := (v1 : Int) - 4) h3 (sz1.mono (by decide)) (gcd_lt h3 (Nat.lt_of_lt_of_le (show (3 : Int).natAbs < 2 ^ 2 by decide) (Nat.pow_le_pow_right (by decide) (by decide))))
        have sz2 : Sz 140 ((v2 : Int) : Rat) := sz_int b2 (by decide)
        have q2 := q_int v2
        have st := set_pts (l := mo) (i := x) (by omega) (Rat.divInt ((v1 : Int) - 4) 3, (v2 : Rat))
        generalize Rat.divInt ((v1 : Int) - 4) 3 = Y at *
        generalize ((v2 : Int) : Rat) = X at *
        refine ⟨_, ?_, mo.set x (Y, X), s2, .val (nD x), rfl, hs, hmo.set ⟨sz1.mono (by decide), sz2.mono (by decide)⟩⟩
        subst w0
        simp [-ok_lend, okl_f, b_law_motion_1, e1, e2, low, q2, st]
      · have w0' : ¬ (way : Int) = 0 := by omega
        by_cases w4 : way < 4
        · have w4' : (way : Int) < 4 := by omega
          have i1 := (ix_pf (l := pts) hx).2
          have zp := hp x hx
          have o1 := r_lstep (tab := tab) zp hg (by decide) k
          have o2 := r_loften (tab := tab) (zp.vec hg) hm (by decide) k
          have st := set_pts (l := mo) (i := x) (by omega) (tms (vec (pf pts x) goal) many)
          refine ⟨_, ?_, mo.set x (tms (vec (pf pts x) goal) many), s, .val (nD x), rfl, hs, hmo.set (((zp.vec hg).tms hm).mono (by decide))⟩
          simp [-ok_lend, okl_f, b_law_motion_1, w0, w0', w4, w4', i1, o1, o2, st]
        · have w4' : ¬ (way : Int) < 4 := by omega
          refine ⟨_, ?_, mo, s, .val (nD x), rfl, hs, hmo⟩
          simp [-ok_lend, okl_f, b_law_motion_1, w0, w0', w4, w4'])
    m 0 _ ⟨mo, s, .emp, rfl, hs, hmo⟩ (Nat.zero_le _) (by omega)
  exact ⟨mo', s', s8', h1, h2, h3⟩
end
end Vm

/-! ThZ: motions. -/
namespace Vm
open PySem L2 Geo
section
variable {tab : Nat → Option Fn}
theorem r_motion [Has tab 38 f_law_draw] [Has tab 39 f_law_common] [Has tab 40 f_law_low] [Has tab 41 f_law_figures] [Has tab 43 f_law_times] [Has tab 45 f_law_often] [Has tab 46 f_law_less] [Has tab 47 f_law_step] [Has tab 66 f_law_rim_of] [Has tab 67 f_law_inner] [Has tab 76 f_law_motion] (k : Nat) {pts : List Pt} {fs : List (List Nat)} {rim : List Nat} (h : Drawn pts fs rim) {s : Int × Int} (hs : Dr s) :
    ∃ (mo : List Pt) (s' : Int × Int), run tab (k + 5) 76 [.own (dD s), .val (ptsT pts), .val (fcsT fs)] = .ret true (ptsL mo) [dD s'] ∧ Dr s' ∧ Mo pts.length mo := by
  have np := h.np
  have e0 := r_inner (tab := tab) (k + 2) h
  obtain ⟨way, s1, e1, b1, hs⟩ := r_draw (tab := tab) hs 5 (m := 5) rfl (by decide) (by decide) (k + 3)
  obtain ⟨g, s2, e2, b2, hs⟩ := r_draw (tab := tab) hs (pts.length : Nat) (m := pts.length) rfl (by omega) (by omega) (k + 3)
  obtain ⟨v3, s3, e3, b3, hs⟩ := r_draw (tab := tab) hs 9 (m := 9) rfl (by decide) (by decide) (k + 3)
  obtain ⟨v4, s4, e4, b4, hs⟩ := r_draw (tab := tab) hs 5 (m := 5) rfl (by decide) (by decide) (k + 3)
  have i1 : idxD (ptsT pts) (.int (g : Nat)) = some (pD (pf pts g)) := (ix_pf b2).2
  have h5 : (1 : Int) + (v4 : Int) ≠ 0 := by omega
  obtain ⟨dl1, dl2⟩ := divInt_le (a := (v3 : Int) - 3) h5
  have sz1 : Sz 5 (Rat.divInt ((v3 : Int) - 3) (1 + (v4 : Int))) := ⟨by omega, by omega⟩
  have low := r_low (tab := tab) (k + 2) (a := (v3 : Int) - 3) h5 (sz1.mono (by decide)) (gcd_lt h5 (Nat.lt_of_lt_of_le (show ((1 : Int) + (v4 : Int)).natAbs < 2 ^ 4 by omega) (Nat.pow_le_pow_right (by decide) (by decide))))
  have rep := mul_pts (0, 0) (n := pts.length) (by omega)
  have mo0 : Mo pts.length (List.replicate pts.length ((0 : Rat), (0 : Rat))) := ⟨List.length_replicate, fun p hp => by
    rw [List.eq_of_mem_replicate hp]
    have : Sz 540 (0 : Rat) := (show Sz 1 (0 : Rat) from ⟨by decide, by decide⟩).mono (by decide)
    exact ⟨this, this⟩⟩
  obtain ⟨mo, s5, s8, lp, hs, hmo⟩ := mo_loop (tab := tab) k (d2 := fcsT fs) (way := way) (I := inners pts.length (fromLeast rim)) (m := ((inners pts.length (fromLeast rim)).map nD).length + 4096) h.sp (h.sp g b2) sz1 (fun x hx => List.mem_range.mp (List.mem_filter.mp hx).1) hs mo0 (by omega)
  have e5 := r_lrim (tab := tab) (k + 3) h
  obtain ⟨v6, s6, e6, b6, hs⟩ := r_draw (tab := tab) hs 4 (m := 4) rfl (by decide) (by decide) (k + 3)
  have lf : (fromLeast rim).length = rim.length := rotAt_len _ _
  have lo := h.lo
  have hi := h.hi
  have ow : ∀ (l : List D) (tp : Bool) (ts : List Nat) (b : Ss) (call : CallT) (refs : List Nat) (i n : Nat) (e : Env), loopW call refs tp ts b (.ow i n) e = forL (fun e => evSs call b (i :: refs) e) (stoT (i :: refs) tp ts) (.ow i n) n 0 e := fun _ _ _ _ _ _ _ _ _ => rfl
  have ow := ow []
  have z : D.tup [D.tup [.int 0, .int 1], D.tup [.int 0, .int 1]] = pD (0, 0) := rfl
  by_cases h6 : v6 = 0
  · obtain ⟨v7, s7, e7, b7, hs⟩ := r_draw (tab := tab) hs 2 (m := 2) rfl (by decide) (by decide) (k + 3)
    obtain ⟨v8, s9, e8, b8, hs⟩ := r_draw (tab := tab) hs ((fromLeast rim).length : Nat) (m := (fromLeast rim).length) rfl (by omega) (by omega) (k + 3)
    have i8 : idxD (rD (fromLeast rim)) (.int (v8 : Nat)) = some (nD (fromLeast rim)[v8]) := ix_r b8
    have hx : (fromLeast rim)[v8] < mo.length := by rw [hmo.len]; exact h.lt _ ((fl_least rim _).mp (List.getElem_mem b8))
    have st := set_pts hx (((v7 : Int) : Rat), (0 : Rat))
    have q7 := q_int (v7 : Int)
    have sz7 : Sz 540 (((v7 : Int)) : Rat) := (sz_int (i := (v7 : Int)) (b := 3) (by omega) (by decide)).mono (by decide)
    have sz0 : Sz 540 (0 : Rat) := (show Sz 1 (0 : Rat) from ⟨by decide, by decide⟩).mono (by decide)
    refine ⟨mo.set (fromLeast rim)[v8] (((v7 : Int) : Rat), 0), s9, ?_, hs, hmo.set ⟨sz7, sz0⟩⟩
    subst h6
    have q0 := q_zero
    have pz : D.tup [qD 0, qD 0] = pD (0, 0) := rfl
    rw [run_at (i := 76) inferInstance]
    generalize (fromLeast rim)[v8] = y at *
    generalize mo.set y (((v7 : Int) : Rat), 0) = MO2 at *
    generalize (((v7 : Int)) : Rat) = X at *
    generalize Rat.divInt ((v3 : Int) - 3) (1 + (v4 : Int)) = Y at *
    generalize List.replicate pts.length ((0 : Rat), (0 : Rat)) = RP at *
    generalize (inners pts.length (fromLeast rim)).map nD = IM at *
    simp [-ok_lend, okl_f, f_law_motion, e0, e1, e2, e3, e4, i1, low, q0, q7, rep, ow, lp, e5, e6, e7, e8, i8, st]

  · refine ⟨mo, s6, ?_, hs, hmo⟩
    have h6' : ¬ (v6 : Int) = 0 := by omega
    have q0 := q_zero
    rw [run_at (i := 76) inferInstance]
    generalize Rat.divInt ((v3 : Int) - 3) (1 + (v4 : Int)) = Y at *
    generalize List.replicate pts.length ((0 : Rat), (0 : Rat)) = RP at *
    generalize (inners pts.length (fromLeast rim)).map nD = IM at *
    simp [-ok_lend, okl_f, f_law_motion, e0, e1, e2, e3, e4, i1, low, q0, rep, ow, lp, e5, e6, h6, h6']
end
end Vm

namespace Vm
open PySem L2 Geo
def names14 : List Str := ["number", "drawing", "edge", "corner", "unlike", "balance", "roof", "turned", "sites", "pulls", "many", "text", "name", "row"]
def kinds (s : Str) : D := .lst ((names14.map fun x => D.bl (x == s)) ++ [.bl true])
def kEdge : D := .lst [.bl false, .bl false, .bl true, .bl false, .bl false, .bl false, .bl false, .bl false, .bl false, .bl false, .bl false, .bl false, .bl false, .bl false, .bl true]
def kUnlike : D := .lst [.bl false, .bl false, .bl false, .bl false, .bl true, .bl false, .bl false, .bl false, .bl false, .bl false, .bl false, .bl false, .bl false, .bl false, .bl true]
theorem names_bl (s : Str) (bs : List Bool) (h : (names14.map fun x => x == s) = bs) : kinds s = .lst (bs.map .bl ++ [.bl true]) := by
  unfold kinds
  rw [← h, List.map_map]; rfl
theorem k_edge : kinds "edge" = kEdge := names_bl _ [false, false, true, false, false, false, false, false, false, false, false, false, false, false] (by decide +kernel)
theorem k_unlike : kinds "unlike" = kUnlike := names_bl _ [false, false, false, false, true, false, false, false, false, false, false, false, false, false] (by decide +kernel)
section
variable {tab : Nat → Option Fn}
theorem ok14 : ∀ x ∈ names14, PyData.strOk x = true := by decide +kernel
theorem r_only [Has tab 70 f_law_only] (k : Nat) {s : Str} (hs : PyData.strOk s = true) : run tab (k + 1) 70 [.val (.str s)] = .ret true (kinds s) [] := by
  have cp := comp_same (call := run tab k) (refs := []) (elt := e_law_only_1) (tp := false) (ts := [2]) (src := .ex (.bin .add (.var 1) (.lst (.cons (.con (.str "many")) (.cons (.con (.str "text")) (.cons (.con (.str "name")) (.cons (.con (.str "row")) .nil))))))) (cond := .none) (xs := names14) (enc := D.str)
    (e := [.val (.str s), .own (.lst ((names14.take 10).map D.str)), .emp]) (fun x => some (D.bl (x == s))) (by simp [names14, C.d]) rfl (by decide) (fun x hx => by
      refine ⟨[.val (.str s), .own (.lst ((names14.take 10).map D.str)), .val (.str x)], rfl, rfl, rfl, false, ?_⟩
      have := eq_str (ok14 x hx) hs
      simp [e_law_only_1, this])
  have ef : names14.filterMap (fun x => some (D.bl (x == s))) = names14.map fun x => D.bl (x == s) := by
    show names14.filterMap (some ∘ fun x => D.bl (x == s)) = _
    rw [List.filterMap_eq_map]
  rw [ef] at cp
  have el : (names14.take 10).map D.str = [.str "number", .str "drawing", .str "edge", .str "corner", .str "unlike", .str "balance", .str "roof", .str "turned", .str "sites", .str "pulls"] := rfl
  rw [el] at cp
  have ad : binD .add (.lst (names14.map fun x => D.bl (x == s))) (.lst [.bl true]) = some (kinds s) := rfl
  have lK : isL (kinds s) = true := rfl
  generalize names14.map (fun x => D.bl (x == s)) = M at *
  generalize kinds s = K at *
  rw [run_at (i := 70) inferInstance]
  simp [f_law_only, cp, ad, C.d, lK]
end
end Vm

/-! Ti2: lengthenings; slackness. -/
namespace Vm
open PySem L2 Geo
/-- what edge u v gains -/
def str (P M : Nat → Pt) (u v : Nat) : Rat := dot (vec (P u) (P v)) (vec (M u) (M v))
theorem str_swap (P M : Nat → Pt) (u v : Nat) : str P M v u = str P M u v := by unfold str dot vec; grind
/-- a motion as data -/
structure MoD (md : D) (n : Nat) (M : Nat → Pt) : Prop where
  ix : ∀ c, c < n → idxD md (nD c) = some (pD (M c)) ∧ Sp 540 (M c)
  ln : biD .len [md] = some (.int (n : Nat))
theorem Mo.dat {n : Nat} {mo : List Pt} (h : Mo n mo) : MoD (ptsL mo) n (pf mo) := by
  obtain ⟨rfl, h2⟩ := h
  exact ⟨fun c hc => ⟨(ix_pf hc).1, h2 _ (pf_mem hc)⟩, len_ptsL mo⟩
theorem Drawn.step {pts : List Pt} {fs : List (List Nat)} {rim : List Nat} (h : Drawn pts fs rim) {u v : Nat} (hs : (u, v) ∈ allSteps fs) : u < pts.length ∧ v < pts.length := by
  obtain ⟨f, hf, h1, h2⟩ := allSteps_nums hs
  exact ⟨h.blt.lt f hf u h1, h.blt.lt f hf v h2⟩
@[simp] theorem ix_dr0 (pts : List Pt) (fs : List (List Nat)) : idxD (drD pts fs) (.int 0) = some (ptsT pts) := by unfold drD; simp
@[simp] theorem ix_dr1 (pts : List Pt) (fs : List (List Nat)) : idxD (drD pts fs) (.int 1) = some (fcsT fs) := by unfold drD; simp
@[simp] theorem isL_dr (pts : List Pt) (fs : List (List Nat)) : isL (drD pts fs) = false := rfl
theorem asInts_i : ∀ l : List Int, asInts (l.map .int) = some l
  | [] => rfl
  | a :: r => by rw [List.map_cons]; show (asInts (r.map .int)).map _ = _; rw [asInts_i r]; rfl
def maxd (l : List Int) : Int := match l with | [] => 0 | a :: r => maxL a r
def mind (l : List Int) : Int := match l with | [] => 0 | a :: r => minL a r
theorem bid_max (l : List Int) : bidD .max (.lst (l.map .int)) (.int 0) = some (.int (maxd l)) := by
  show (asInts (l.map .int)).map _ = _
  rw [asInts_i]; rfl
theorem bid_min (l : List Int) : bidD .min (.lst (l.map .int)) (.int 0) = some (.int (mind l)) := by
  show (asInts (l.map .int)).map _ = _
  rw [asInts_i]; rfl
theorem maxL_le {b : Int} : ∀ (r : List Int) (a : Int), maxL a r ≤ b ↔ a ≤ b ∧ ∀ x ∈ r, x ≤ b
  | [], a => by show a ≤ b ↔ _; simp
  | c :: r, a => by
    show maxL (if c > a then c else a) r ≤ b ↔ _
    rw [maxL_le r]
    split
    · constructor
      · rintro ⟨h1, h2⟩
        refine ⟨by omega, fun x hx => ?_⟩
        rcases List.mem_cons.mp hx with e | hx
        · omega
        · exact h2 x hx
      · rintro ⟨h1, h2⟩
        exact ⟨h2 c List.mem_cons_self, fun x hx => h2 x (List.mem_cons_of_mem _ hx)⟩
    · constructor
      · rintro ⟨h1, h2⟩
        refine ⟨by omega, fun x hx => ?_⟩
        rcases List.mem_cons.mp hx with e | hx
        · omega
        · exact h2 x hx
      · rintro ⟨h1, h2⟩
        exact ⟨h1, fun x hx => h2 x (List.mem_cons_of_mem _ hx)⟩
theorem minL_lt {b : Int} : ∀ (r : List Int) (a : Int), minL a r < b ↔ a < b ∨ ∃ x ∈ r, x < b
  | [], a => by show a < b ↔ _; simp
  | c :: r, a => by
    show minL (if c < a then c else a) r < b ↔ _
    rw [minL_lt r]
    split
    · constructor
      · rintro (h1 | ⟨x, hx, h2⟩)
        · exact .inr ⟨c, List.mem_cons_self, h1⟩
        · exact .inr ⟨x, List.mem_cons_of_mem _ hx, h2⟩
      · rintro (h1 | ⟨x, hx, h2⟩)
        · exact .inl (by omega)
        · rcases List.mem_cons.mp hx with e | hx
          · exact .inl (by omega)
          · exact .inr ⟨x, hx, h2⟩
    · constructor
      · rintro (h1 | ⟨x, hx, h2⟩)
        · exact .inl h1
        · exact .inr ⟨x, List.mem_cons_of_mem _ hx, h2⟩
      · rintro (h1 | ⟨x, hx, h2⟩)
        · exact .inl h1
        · rcases List.mem_cons.mp hx with e | hx
          · exact .inl (by omega)
          · exact .inr ⟨x, hx, h2⟩
theorem maxd_le (l : List Int) : maxd l ≤ 0 ↔ ∀ x ∈ l, x ≤ 0 := by
  cases l with
  | nil => simp [maxd]
  | cons a r => show maxL a r ≤ 0 ↔ _; rw [maxL_le]; simp
theorem mind_lt (l : List Int) : mind l < 0 ↔ ∃ x ∈ l, x < 0 := by
  cases l with
  | nil => simp [mind]
  | cons a r => show minL a r < 0 ↔ _; rw [minL_lt]; simp
section
variable {tab : Nat → Option Fn}
theorem r_stretch [Has tab 39 f_law_common] [Has tab 40 f_law_low] [Has tab 42 f_law_sum] [Has tab 43 f_law_times] [Has tab 46 f_law_less] [Has tab 47 f_law_step] [Has tab 68 f_law_dot] [Has tab 69 f_law_stretch] (k : Nat) {pts : List Pt} {fs : List (List Nat)} {rim : List Nat} (h : Drawn pts fs rim) {md : D} {M : Nat → Pt} (hm : MoD md pts.length M) {u v : Nat} (hu : u < pts.length) (hv : v < pts.length) :
    run tab (k + 5) 69 [.val (ptsT pts), .val md, .val (nD u), .val (nD v)] = .ret false (qD (str (pf pts) M u v)) [] := by
  have i1 := (ix_pf hu).2
  have i2 := (ix_pf hv).2
  obtain ⟨i3, z3⟩ := hm.ix u hu
  obtain ⟨i4, z4⟩ := hm.ix v hv
  have z1 := h.sp u hu
  have z2 := h.sp v hv
  have o1 := r_lstep (tab := tab) z1 z2 (by decide) k
  have o2 := r_lstep (tab := tab) z3 z4 (by decide) k
  have o3 := r_ldot (tab := tab) (z1.vec z2) (z3.vec z4) (by decide) k
  rw [run_at (i := 69) inferInstance]
  simp [f_law_stretch, i1, i2, i3, i4, o1, o2, o3, str]
section
variable [Has tab 0 f_divisor] [Has tab 1 f_fraction] [Has tab 2 f_plus] [Has tab 3 f_minus] [Has tab 4 f_product] [Has tab 6 f_step_of] [Has tab 10 f_dotted] [Has tab 15 f_steps_of] [Has tab 63 f_wings] [Has tab 64 f_lengthening]
theorem r_length (k : Nat) {pts : List Pt} {fs : List (List Nat)} {rim : List Nat} (h : Drawn pts fs rim) {md : D} {M : Nat → Pt} (hm : MoD md pts.length M) {u v : Nat} (h1 : (u, v) ∈ allSteps fs) (h2 : (v, u) ∈ allSteps fs) :
    run tab (k + 5) 64 [.val (drD pts fs), .val md, .val (nD u), .val (nD v)] = .ret false (qD (str (pf pts) M u v)) [] := by
  obtain ⟨hu, hv⟩ := h.step h1
  have i1 := (ix_pf hu).2
  have i2 := (ix_pf hv).2
  obtain ⟨i3, z3⟩ := hm.ix u hu
  obtain ⟨i4, z4⟩ := hm.ix v hv
  have ln := hm.ln
  have z1 := h.sp u hu
  have z2 := h.sp v hv
  have o1 := r_step (tab := tab) z1 z2 (by decide) k
  have o2 := r_step (tab := tab) z3 z4 (by decide) k
  have o3 := r_dotted (tab := tab) (z1.vec z2) (z3.vec z4) (by decide) k
  obtain ⟨l, r, w, _, _⟩ := r_wings (tab := tab) (k + 2) (dd := drD pts fs) (ix_dr1 pts fs) (Fc.tup fs) h.blt.fok h1 h2
  rw [run_at (i := 64) inferInstance]
  simp [f_lengthening, i1, i2, i3, i4, o1, o2, o3, ln, w, str]
theorem r_length_no (k : Nat) {pts : List Pt} {fs : List (List Nat)} {rim : List Nat} (h : Drawn pts fs rim) {md : D} {M : Nat → Pt} (hm : MoD md pts.length M) {a b : Int}
    (hn : (a < 0 ∨ b < 0) ∨ ∃ u v : Nat, a = u ∧ b = v ∧ ((u, v) ∉ allSteps fs ∨ (v, u) ∉ allSteps fs)) :
    run tab (k + 5) 64 [.val (drD pts fs), .val md, .val (.int a), .val (.int b)] = .exc .NoEdge [] := by
  have ln := hm.ln
  have w := r_wings_no (tab := tab) (k + 2) (dd := drD pts fs) (ix_dr1 pts fs) (Fc.tup fs) h.blt.fok hn
  rw [run_at (i := 64) inferInstance]
  simp [f_lengthening, ln, w]
theorem r_length_un (k : Nat) {pts : List Pt} {fs : List (List Nat)} {md : D} {m : Nat} (hm : biD .len [md] = some (.int (m : Nat))) (hne : m ≠ pts.length) (x y : D) :
    run tab (k + 5) 64 [.val (drD pts fs), .val md, .val x, .val y] = .exc .Unlike [] := by
  have hne' : ¬ (m : Int) = (pts.length : Int) := by omega
  rw [run_at (i := 64) inferInstance]
  simp [f_lengthening, hm, hne, hne']
end
end
end Vm

/-! Ti3: slackness. -/
namespace Vm
open PySem L2 Geo
theorem innerE_mem {fs : List (List Nat)} {s : Nat × Nat} (h : s ∈ innerE fs) : s ∈ allSteps fs ∧ (s.2, s.1) ∈ allSteps fs := by
  have h1 := (sortS_perm _).mem_iff.mp h
  obtain ⟨h2, h3⟩ := List.mem_filter.mp h1
  unfold inn at h3
  simp at h3
  exact ⟨h2, h3.2⟩
def topsL (P M : Nat → Pt) (fs : List (List Nat)) : List Int := (innerE fs).map fun s => (str P M s.1 s.2).num
def slackB (P M : Nat → Pt) (fs : List (List Nat)) (rim : List Nat) : Bool := decide (∀ c ∈ rim, M c = (0, 0)) && (decide (maxd (topsL P M fs) ≤ 0) && decide (mind (topsL P M fs) < 0))
theorem nul_p : D.tup [D.tup [.int 0, .int 1], D.tup [.int 0, .int 1]] = pD (0, 0) := rfl
theorem slack_loop {call : CallT} {d0 md : D} {M : Nat → Pt} {n : Nat} (hm : MoD md n M) : ∀ (l : List Nat) (s2 : Slot), (∀ c ∈ l, c < n) → (s2 = .emp ∨ ∃ d, s2 = .val d) →
    ((∀ c ∈ l, M c = (0, 0)) ∧ ∃ s2', forS call [] false [2] b_is_slack_1 (l.map nD) [.val d0, .val md, s2, .emp, .emp] = .next [.val d0, .val md, s2', .emp, .emp]) ∨
    (¬ (∀ c ∈ l, M c = (0, 0)) ∧ ∃ s2', forS call [] false [2] b_is_slack_1 (l.map nD) [.val d0, .val md, s2, .emp, .emp] = .ret false (.bl false) [.val d0, .val md, s2', .emp, .emp])
  | [], s2, _, _ => .inl ⟨(fun c hc => nomatch hc), s2, rfl⟩
  | c :: l, s2, hl, hv => by
    obtain ⟨i, _⟩ := hm.ix c (hl c List.mem_cons_self)
    have z := q_zero
    by_cases h : M c = (0, 0)
    · have ih := slack_loop (call := call) (d0 := d0) hm l (.val (nD c)) (fun x hx => hl x (List.mem_cons_of_mem _ hx)) (.inr ⟨_, rfl⟩)
      have st : forS call [] false [2] b_is_slack_1 ((c :: l).map nD) [.val d0, .val md, s2, .emp, .emp] = forS call [] false [2] b_is_slack_1 (l.map nD) [.val d0, .val md, .val (nD c), .emp, .emp] := by
        rw [List.map_cons, forS_cons]
        simp [b_is_slack_1, i, z, h]
      rcases ih with ⟨h1, s2', h2⟩ | ⟨h1, s2', h2⟩
      · exact .inl ⟨fun x hx => (List.mem_cons.mp hx).elim (fun e => e ▸ h) (h1 x), s2', st.trans h2⟩
      · exact .inr ⟨fun z => h1 fun x hx => z x (List.mem_cons_of_mem _ hx), s2', st.trans h2⟩
    · refine .inr ⟨fun z => h (z c List.mem_cons_self), .val (nD c), ?_⟩
      rw [List.map_cons, forS_cons]
      simp [b_is_slack_1, i, z, h]
section
variable {tab : Nat → Option Fn}
section
variable [Has tab 0 f_divisor] [Has tab 1 f_fraction] [Has tab 2 f_plus] [Has tab 3 f_minus] [Has tab 4 f_product] [Has tab 6 f_step_of] [Has tab 10 f_dotted] [Has tab 15 f_steps_of] [Has tab 16 f_ring_of] [Has tab 18 f_outer_ring] [Has tab 20 f_inner_edges] [Has tab 63 f_wings] [Has tab 64 f_lengthening] [Has tab 65 f_is_slack]
theorem r_slack (k : Nat) {pts : List Pt} {fs : List (List Nat)} {rim : List Nat} (h : Drawn pts fs rim) {md : D} {M : Nat → Pt} (hm : MoD md pts.length M) :
    run tab (k + 6) 65 [.val (drD pts fs), .val md] = .ret false (.bl (slackB (pf pts) M fs rim)) [] := by
  have ln := hm.ln
  have lo := h.lo
  have hi := h.hi
  have e1 := r_outer_ring (tab := tab) (k + 3) (dd := drD pts fs) (ix_dr1 pts fs) (Fc.tup fs) h.rimmed h.ne (by omega) h.blt.fok.sl h.blt.fok.fl h.blt.fok.el
  have e2 := r_inner_edges (tab := tab) (k + 3) (dd := drD pts fs) (ix_dr1 pts fs) (Fc.tup fs) h.blt.fok
  have lp := slack_loop (call := run tab (k + 5)) (d0 := drD pts fs) hm (fromLeast rim) .emp (fun c hc => h.lt c ((fl_least _ _).mp hc)) (.inl rfl)
  have al : (∀ c ∈ fromLeast rim, M c = (0, 0)) ↔ ∀ c ∈ rim, M c = (0, 0) := ⟨fun z c hc => z c ((fl_least _ _).mpr hc), fun z c hc => z c ((fl_least _ _).mp hc)⟩
  rw [al] at lp
  rcases lp with ⟨a, s2, lp⟩ | ⟨a, s2, lp⟩
  · have cp := comp_src (call := run tab (k + 5)) (refs := []) (elt := e_is_slack_1) (tp := false) (ts := [4]) (src := .ex (.call 20 (.lend 0 .nil))) (cond := .none) (xs := innerE fs) (enc := sD)
      (e := [.val (drD pts fs), .val md, s2, .emp, .emp]) (e1 := [.val (drD pts fs), .val md, s2, .emp, .emp]) (fun s => some (D.int (str (pf pts) M s.1 s.2).num)) (by
        generalize (innerE fs).map sD = Q at *
        simp [e2]) rfl (by
        have := h.blt.fok.sl
        show (sortS _).length ≤ _
        rw [(sortS_perm _).length_eq]
        have := List.length_filter_le (inn (allSteps fs)) (allSteps fs)
        omega) (fun s hs => by
        refine ⟨[.val (drD pts fs), .val md, s2, .emp, .val (sD s)], rfl, rfl, rfl, false, ?_⟩
        obtain ⟨m1, m2⟩ := innerE_mem hs
        have := r_length (tab := tab) k h hm (u := s.1) (v := s.2) m1 m2
        simp [e_is_slack_1, this])
    have ef : (innerE fs).filterMap (fun s => some (D.int (str (pf pts) M s.1 s.2).num)) = (topsL (pf pts) M fs).map .int := by
      unfold topsL
      rw [List.map_map]
      show (innerE fs).filterMap (some ∘ (D.int ∘ fun s => (str (pf pts) M s.1 s.2).num)) = _
      rw [List.filterMap_eq_map]
    rw [ef] at cp
    have b1 := bid_max (topsL (pf pts) M fs)
    have b2 := bid_min (topsL (pf pts) M fs)
    unfold slackB
    rw [decide_eq_true a, Bool.true_and]
    rw [run_at (i := 65) inferInstance]
    generalize topsL (pf pts) M fs = T at *
    generalize T.map D.int = TD at *
    by_cases c1 : maxd T ≤ 0
    · simp [f_is_slack, ln, e1, lp, cp, b1, b2, c1]
    · simp [f_is_slack, ln, e1, lp, cp, b1, b2, c1]
  · unfold slackB
    rw [decide_eq_false a, Bool.false_and]
    rw [run_at (i := 65) inferInstance]
    simp [f_is_slack, ln, e1, lp]
theorem r_slack_un (k : Nat) {pts : List Pt} {fs : List (List Nat)} {md : D} {m : Nat} (hm : biD .len [md] = some (.int (m : Nat))) (hne : m ≠ pts.length) :
    run tab (k + 6) 65 [.val (drD pts fs), .val md] = .exc .Unlike [] := by
  have hne' : ¬ (m : Int) = (pts.length : Int) := by omega
  rw [run_at (i := 65) inferInstance]
  simp [f_is_slack, hm, hne, hne']
end
end
end Vm

/-! Ti4: what is tried. -/
namespace Vm
open PySem L2 Geo
section
variable {tab : Nat → Option Fn}
theorem tr_ok [Has tab 75 f_law_tried] (k : Nat) {dd md a b d : D} (hd : isL d = false) (h : run tab k 64 [.val dd, .val md, .val a, .val b] = .ret false d []) : run tab (k + 1) 75 [.val (.int 0), .val dd, .val md, .val a, .val b] = .ret false (.tup [d, .lst []]) [] := by
  rw [run_at (i := 75) inferInstance]
  simp [-ok_lend, okl_f, f_law_tried, st_tryk', h]
theorem tr_edge [Has tab 75 f_law_tried] (k : Nat) {dd md a b : D} (h : run tab k 64 [.val dd, .val md, .val a, .val b] = .exc .NoEdge []) : run tab (k + 1) 75 [.val (.int 0), .val dd, .val md, .val a, .val b] = .ret false (.tup [.non, kEdge]) [] := by
  rw [run_at (i := 75) inferInstance]
  simp [-ok_lend, okl_f, f_law_tried, st_tryk', h, hndl, kEdge]
theorem tr_un0 [Has tab 75 f_law_tried] (k : Nat) {dd md a b : D} (h : run tab k 64 [.val dd, .val md, .val a, .val b] = .exc .Unlike []) : run tab (k + 1) 75 [.val (.int 0), .val dd, .val md, .val a, .val b] = .ret false (.tup [.non, kUnlike]) [] := by
  rw [run_at (i := 75) inferInstance]
  simp [-ok_lend, okl_f, f_law_tried, st_tryk', h, hndl, kUnlike]
theorem tr_ok1 [Has tab 75 f_law_tried] (k : Nat) {dd md a b d : D} (hd : isL d = false) (h : run tab k 65 [.val dd, .val md] = .ret false d []) : run tab (k + 1) 75 [.val (.int 1), .val dd, .val md, .val a, .val b] = .ret false (.tup [d, .lst []]) [] := by
  rw [run_at (i := 75) inferInstance]
  simp [-ok_lend, okl_f, f_law_tried, st_tryk', h]
theorem tr_un1 [Has tab 75 f_law_tried] (k : Nat) {dd md a b : D} (h : run tab k 65 [.val dd, .val md] = .exc .Unlike []) : run tab (k + 1) 75 [.val (.int 1), .val dd, .val md, .val a, .val b] = .ret false (.tup [.non, kUnlike]) [] := by
  rw [run_at (i := 75) inferInstance]
  simp [-ok_lend, okl_f, f_law_tried, st_tryk', h, hndl, kUnlike]
end
theorem eq_kk : eqD kEdge kEdge = some true := rfl
theorem eq_kn : eqD kEdge (.lst []) = some false := rfl
theorem eq_uu : eqD (.tup [.non, kUnlike]) (.tup [.non, kUnlike]) = some true := rfl
theorem eq_nn : eqD (.lst []) (.lst []) = some true := rfl
end Vm

/-! Ti5: every edge tried. -/
namespace Vm
open PySem L2 Geo
theorem Drawn.step_ne {pts : List Pt} {fs : List (List Nat)} {rim : List Nat} (h : Drawn pts fs rim) {u v : Nat} (hs : (u, v) ∈ allSteps fs) : u ≠ v := by
  intro e
  subst e
  obtain ⟨f, hf, hsf⟩ := allSteps_mem.mp hs
  exact two_faces (h.blt.draw.bay f hf) hsf hsf
theorem innerE_iff {fs : List (List Nat)} {u v : Nat} : (u, v) ∈ innerE fs ↔ (u, v) ∈ allSteps fs ∧ u < v ∧ (v, u) ∈ allSteps fs := by
  unfold innerE
  rw [(sortS_perm _).mem_iff, List.mem_filter]
  unfold inn
  simp
theorem innerE_nodup {fs : List (List Nat)} (h : (allSteps fs).Nodup) : (innerE fs).Nodup := (sortS_perm _).nodup_iff.mpr (h.sublist List.filter_sublist)
/-- what is due to each edge, either way -/
def dueM (P M : Nat → Pt) (l : List (Nat × Nat)) : List ((Nat × Nat) × D) := l.flatMap fun s => [(s, qD (str P M s.1 s.2)), ((s.2, s.1), qD (str P M s.1 s.2))]
theorem dueM_snoc (P M : Nat → Pt) (l : List (Nat × Nat)) (s : Nat × Nat) : dueM P M (l ++ [s]) = dueM P M l ++ [(s, qD (str P M s.1 s.2))] ++ [((s.2, s.1), qD (str P M s.1 s.2))] := by
  unfold dueM
  rw [List.flatMap_append, List.append_assoc]; rfl
theorem dueM_keys {P M : Nat → Pt} {l : List (Nat × Nat)} {u v : Nat} : (u, v) ∈ (dueM P M l).map (·.1) ↔ (u, v) ∈ l ∨ (v, u) ∈ l := by
  unfold dueM
  induction l with
  | nil => simp
  | cons s l ih =>
    rw [List.flatMap_cons, List.map_append, List.mem_append, ih]
    obtain ⟨a, b⟩ := s
    simp
    constructor
    · rintro ((h | h) | h | h)
      · exact .inl (.inl h)
      · exact .inr (.inl ⟨h.2, h.1⟩)
      · exact .inl (.inr h)
      · exact .inr (.inr h)
    · rintro ((h | h) | h | h)
      · exact .inl (.inl h)
      · exact .inr (.inl h)
      · exact .inl (.inr ⟨h.2, h.1⟩)
      · exact .inr (.inr h)
theorem dueM_len (P M : Nat → Pt) (l : List (Nat × Nat)) : (dueM P M l).length = 2 * l.length := by
  unfold dueM
  induction l with
  | nil => rfl
  | cons s l ih => rw [List.flatMap_cons, List.length_append, ih]; simp; omega
theorem lk_mem {α β : Type} [DecidableEq α] {m : List (α × β)} {s : α} {v : β} (h : s ∈ m.map (·.1)) (hu : ∀ w, (s, w) ∈ m → w = v) : lk m s = some v := by
  cases e : lk m s with
  | none => exact absurd h (lk_none.mp e)
  | some w => rw [hu w (lk_some e)]
theorem dueM_lk {P M : Nat → Pt} {l : List (Nat × Nat)} {u v : Nat} (h : (u, v) ∈ l ∨ (v, u) ∈ l) : lk (dueM P M l) (u, v) = some (qD (str P M u v)) := by
  refine lk_mem (dueM_keys.mpr h) fun w hw => ?_
  unfold dueM at hw
  obtain ⟨s, hs, hm⟩ := List.mem_flatMap.mp hw
  rcases List.mem_cons.mp hm with e | hm
  · have e1 := congrArg Prod.fst e
    have e2 := congrArg Prod.snd e
    have e1 : (u, v) = s := e1
    have e2 : w = qD (str P M s.1 s.2) := e2
    rw [e2, ← e1]
  · have e := List.mem_singleton.mp hm
    have e1 := congrArg Prod.fst e
    have e2 := congrArg Prod.snd e
    have e1 : (u, v) = (s.2, s.1) := e1
    have e2 : w = qD (str P M s.1 s.2) := e2
    have hu : u = s.2 := congrArg Prod.fst e1
    have hv : v = s.1 := congrArg Prod.snd e1
    rw [e2, hu, hv, str_swap P M s.1 s.2]
theorem Drawn.innerE_len {pts : List Pt} {fs : List (List Nat)} {rim : List Nat} (h : Drawn pts fs rim) : (innerE fs).length ≤ 1600 := by
  have np := h.np
  have lt : ∀ s ∈ innerE fs, s.1 < 40 ∧ s.2 < 40 := fun s hs => by
    have := h.step (innerE_mem hs).1
    omega
  have := nodup_le 1600 ((innerE fs).map fun s => s.1 * 40 + s.2) (by
    refine List.Pairwise.map _ (R := fun a b => (a ∈ innerE fs ∧ b ∈ innerE fs) ∧ a ≠ b) (fun a b h e => h.2 ?_) ?_
    · have h1 := lt a h.1.1
      have h2 := lt b h.1.2
      exact Prod.ext (by omega) (by omega)
    · have := innerE_nodup h.blt.fok.nd
      exact List.Pairwise.imp_of_mem (fun ha hb h => ⟨⟨ha, hb⟩, h⟩) this) (fun x hx => by
    obtain ⟨s, hs, rfl⟩ := List.mem_map.mp hx
    have := lt s hs
    omega)
  rwa [List.length_map] at this
theorem slc_row (u v l r : Nat) : slcD (rD [u, v, l, r]) none (some 2) = some (sD (u, v)) := slc_r_to [u, v, l, r] 2
section
variable {tab : Nat → Option Fn}
theorem due_loop [Has tab 39 f_law_common] [Has tab 40 f_law_low] [Has tab 42 f_law_sum] [Has tab 43 f_law_times] [Has tab 46 f_law_less] [Has tab 47 f_law_step] [Has tab 68 f_law_dot] [Has tab 69 f_law_stretch] (k : Nat) {pts : List Pt} {fs : List (List Nat)} {rim : List Nat} (h : Drawn pts fs rim) {md : D} {M : Nat → Pt} (hm : MoD md pts.length M) {d0 d1 : D} {s6 s7 s8 s9 : Slot} :
    ∀ (rest done : List (Nat × Nat)) (s5 : Slot), done ++ rest = innerE fs → Vs s5 →
      ∃ s5', forS (run tab (k + 5)) [] false [5] b_law_edges_right_3 (rest.map fun s => rD (rowOf fs s)) [.val d0, .val d1, .val md, .val (ptsT pts), .own (stD (dueM (pf pts) M done)), s5, s6, s7, s8, s9] =
        .next [.val d0, .val d1, .val md, .val (ptsT pts), .own (stD (dueM (pf pts) M (innerE fs))), s5', s6, s7, s8, s9]
  | [], done, s5, he, _ => ⟨s5, by rw [← he, List.append_nil]; rfl⟩
  | (u, v) :: rest, done, s5, he, _ => by
    have hnd : (done ++ (u, v) :: rest).Nodup := he ▸ innerE_nodup h.blt.fok.nd
    have hin : (u, v) ∈ innerE fs := by rw [← he]; simp
    obtain ⟨m1, m2, m3⟩ := innerE_iff.mp hin
    obtain ⟨hu, hv⟩ := h.step m1
    have lt : ∀ a b : Nat, (a, b) ∈ done → a < b := fun a b hab => (innerE_iff.mp (by rw [← he]; exact List.mem_append_left _ hab)).2.1
    have n1 : (u, v) ∉ done := (nodup_mid hnd).1
    have n2 : (v, u) ∉ done := fun z => by have := lt v u z; omega
    have ll := h.innerE_len
    have ld : done.length + (rest.length + 1) = (innerE fs).length := by rw [← he]; simp
    obtain ⟨s5', ih⟩ := due_loop k h hm (d0 := d0) (d1 := d1) (s6 := s6) (s7 := s7) (s8 := s8) (s9 := s9) rest (done ++ [(u, v)]) (.val (rD (rowOf fs (u, v)))) (by rw [List.append_assoc]; exact he) (.inr ⟨_, rfl⟩)
    refine ⟨s5', ?_⟩
    have o := r_stretch (tab := tab) k h hm hu hv
    have p1 := put_st (m := dueM (pf pts) M done) (s := (u, v)) (v := qD (str (pf pts) M u v)) (fun z => (dueM_keys.mp z).elim n1 n2) (by rw [dueM_len]; omega)
    have p2 := put_st (m := dueM (pf pts) M done ++ [((u, v), qD (str (pf pts) M u v))]) (s := (v, u)) (v := qD (str (pf pts) M u v)) (by
      rw [List.map_append, List.mem_append]
      rintro (z | z)
      · exact (dueM_keys.mp z).elim n2 n1
      · have := List.mem_singleton.mp z
        have : v = u := congrArg Prod.fst this
        omega) (by rw [List.length_append, dueM_len]; simp; omega)
    have sn := dueM_snoc (pf pts) M done (u, v)
    have sn : dueM (pf pts) M (done ++ [(u, v)]) = dueM (pf pts) M done ++ [((u, v), qD (str (pf pts) M u v))] ++ [((v, u), qD (str (pf pts) M u v))] := sn
    rw [← sn] at p2
    have x1 := ix_st (dueM (pf pts) M done ++ [((u, v), qD (str (pf pts) M u v))]) (u, v)
    have lk1 : lk (dueM (pf pts) M done ++ [((u, v), qD (str (pf pts) M u v))]) (u, v) = some (qD (str (pf pts) M u v)) := lk_mem (by simp) fun w hw => by
      rcases List.mem_append.mp hw with z | z
      · exact absurd (List.mem_map.mpr ⟨_, z, rfl⟩) (fun z => (dueM_keys.mp z).elim n1 n2)
      · exact congrArg Prod.snd (List.mem_singleton.mp z)
    rw [lk1] at x1
    have sl := slc_row u v (fidx fs (u, v)) (fidx fs (v, u))
    have i0 : idxD (rD (rowOf fs (u, v))) (.int 0) = some (nD u) := rfl
    have i1 : idxD (rD (rowOf fs (u, v))) (.int 1) = some (nD v) := rfl
    have sl : slcD (rD (rowOf fs (u, v))) none (some 2) = some (sD (u, v)) := sl
    have sw : D.tup [nD v, nD u] = sD (v, u) := rfl
    rw [List.map_cons, forS_cons, ← ih]
    clear ih sn lk1
    generalize dueM (pf pts) M (done ++ [(u, v)]) = M3 at *
    generalize dueM (pf pts) M done ++ [((u, v), qD (str (pf pts) M u v))] = M2 at *
    generalize dueM (pf pts) M done = M1 at *
    generalize rowOf fs (u, v) = row at *
    generalize str (pf pts) M u v = X at *
    unfold stD at *
    simp [-ok_lend, okl_f, b_law_edges_right_3, i0, i1, o, sl, sw, p1, p2, x1]
end
end Vm

/-! Ti6: every edge tried. -/
namespace Vm
open PySem L2 Geo
theorem ok_edge : PyData.strOk "edge" = true := by decide +kernel
theorem ok_unlike : PyData.strOk "unlike" = true := by decide +kernel
theorem Drawn.inner_iff {pts : List Pt} {fs : List (List Nat)} {rim : List Nat} (h : Drawn pts fs rim) {u v : Nat} : ((u, v) ∈ innerE fs ∨ (v, u) ∈ innerE fs) ↔ (u, v) ∈ allSteps fs ∧ (v, u) ∈ allSteps fs := by
  constructor
  · rintro (z | z)
    · have := innerE_iff.mp z; exact ⟨this.1, this.2.2⟩
    · have := innerE_iff.mp z; exact ⟨this.2.2, this.1⟩
  · rintro ⟨a, b⟩
    have := h.step_ne a
    by_cases hlt : u < v
    · exact .inl (innerE_iff.mpr ⟨a, hlt, b⟩)
    · exact .inr (innerE_iff.mpr ⟨b, by omega, a⟩)
section
variable {tab : Nat → Option Fn}
variable [Has tab 0 f_divisor] [Has tab 1 f_fraction] [Has tab 2 f_plus] [Has tab 3 f_minus] [Has tab 4 f_product] [Has tab 6 f_step_of] [Has tab 10 f_dotted] [Has tab 15 f_steps_of] [Has tab 63 f_wings] [Has tab 64 f_lengthening] [Has tab 70 f_law_only] [Has tab 75 f_law_tried]
theorem cell_loop (k : Nat) {pts : List Pt} {fs : List (List Nat)} {rim : List Nat} (h : Drawn pts fs rim) {md : D} {M : Nat → Pt} (hm : MoD md pts.length M) {d1 d3 : D} {s5 : Slot} {a : Int} :
    ∀ (l : List Int) (s7 s8 s9 : Slot), Vs s7 → Vs s8 → Vs s9 →
      ∃ s7' s8' s9', forS (run tab (k + 6)) [] false [7] b_law_edges_right_2 (l.map .int) [.val (drD pts fs), .val d1, .val md, .val d3, .own (stD (dueM (pf pts) M (innerE fs))), s5, .val (.int a), s7, s8, s9] =
        .next [.val (drD pts fs), .val d1, .val md, .val d3, .own (stD (dueM (pf pts) M (innerE fs))), s5, .val (.int a), s7', s8', s9'] ∧ Vs s7' ∧ Vs s8' ∧ Vs s9'
  | [], s7, s8, s9, h7, h8, h9 => ⟨s7, s8, s9, rfl, h7, h8, h9⟩
  | b :: l, s7, s8, s9, h7, h8, h9 => by
    have only := r_only (tab := tab) (k + 5) ok_edge
    rw [k_edge] at only
    by_cases hc : ∃ u v : Nat, a = u ∧ b = v ∧ (u, v) ∈ allSteps fs ∧ (v, u) ∈ allSteps fs
    · obtain ⟨u, v, rfl, rfl, m1, m2⟩ := hc
      have t : run tab (k + 5 + 1) 75 [.val (.int 0), .val (drD pts fs), .val md, .val (.int (u : Nat)), .val (.int (v : Nat))] = _ := tr_ok (tab := tab) (k + 5) (isL_q _) (r_length (tab := tab) k h hm m1 m2)
      have inn := h.inner_iff.mpr ⟨m1, m2⟩
      have i1 := in_st (dueM (pf pts) M (innerE fs)) (u, v)
      rw [decide_eq_true (dueM_keys.mpr inn)] at i1
      have x1 := ix_st (dueM (pf pts) M (innerE fs)) (u, v)
      rw [dueM_lk inn] at x1
      obtain ⟨s7', s8', s9', ih, r⟩ := cell_loop k h hm (d1 := d1) (d3 := d3) (s5 := s5) (a := (u : Int)) l (.val (.int (v : Nat))) (.val (qD (str (pf pts) M u v))) (.val (.lst [])) (.inr ⟨_, rfl⟩) (.inr ⟨_, rfl⟩) (.inr ⟨_, rfl⟩)
      refine ⟨s7', s8', s9', ?_, r⟩
      have sm : D.tup [.int (u : Int), .int (v : Int)] = sD (u, v) := rfl
      have e1 := eq_nn
      rw [List.map_cons, forS_cons, ← ih]
      clear ih r
      generalize dueM (pf pts) M (innerE fs) = DM at *
      generalize str (pf pts) M u v = X at *
      unfold stD at *
      simp [-ok_lend, okl_f, b_law_edges_right_2, t, sm, i1, x1, e1]
    · have hn : (a < 0 ∨ b < 0) ∨ ∃ u v : Nat, a = u ∧ b = v ∧ ((u, v) ∉ allSteps fs ∨ (v, u) ∉ allSteps fs) := by
        by_cases h0 : a < 0 ∨ b < 0
        · exact .inl h0
        · refine .inr ⟨a.toNat, b.toNat, by omega, by omega, ?_⟩
          by_cases z : (a.toNat, b.toNat) ∈ allSteps fs
          · exact .inr fun w => hc ⟨a.toNat, b.toNat, by omega, by omega, z, w⟩
          · exact .inl z
      have t := tr_edge (tab := tab) (k + 5) (r_length_no (tab := tab) k h hm hn)
      have i1 : inD (.tup [.int a, .int b]) (stD (dueM (pf pts) M (innerE fs))) = some false := by
        rcases hn with hn | ⟨u, v, rfl, rfl, hn⟩
        · exact in_neg _ hn
        · have := in_st (dueM (pf pts) M (innerE fs)) (u, v)
          rw [decide_eq_false (fun z => by
            have := h.inner_iff.mp (dueM_keys.mp z)
            rcases hn with hn | hn
            · exact hn this.1
            · exact hn this.2)] at this
          exact this
      obtain ⟨s7', s8', s9', ih, r⟩ := cell_loop k h hm (d1 := d1) (d3 := d3) (s5 := s5) (a := a) l (.val (.int b)) (.val .non) (.val kEdge) (.inr ⟨_, rfl⟩) (.inr ⟨_, rfl⟩) (.inr ⟨_, rfl⟩)
      refine ⟨s7', s8', s9', ?_, r⟩
      have e1 := eq_kk
      have lK : isL kEdge = true := rfl
      rw [List.map_cons, forS_cons, ← ih]
      clear ih r hc hn
      generalize dueM (pf pts) M (innerE fs) = DM at *
      unfold stD at *
      generalize kEdge = K at *
      simp [-ok_lend, okl_f, b_law_edges_right_2, t, i1, e1, only, C.d]
def upto (n : Nat) (z : Int) : List Int := (List.range n).map (fun (i : Nat) => (i : Int)) ++ [z]
theorem upto_D (n : Nat) (hn : n ≤ 4000) (z : Int) : binD .add (.lst (idxs 0 n)) (.lst [.int z]) = some (.lst ((upto n z).map .int)) := by
  show (if (idxs 0 n).length + ([D.int z] : List D).length ≤ 16777216 then some (D.lst (idxs 0 n ++ [D.int z])) else none) = _
  rw [if_pos (by unfold idxs; simp; omega)]
  unfold upto
  rw [List.map_append, List.map_map, idxs_range]; rfl
theorem row_loop (k : Nat) {pts : List Pt} {fs : List (List Nat)} {rim : List Nat} (h : Drawn pts fs rim) {md : D} {M : Nat → Pt} (hm : MoD md pts.length M) {d1 : D} {s5 : Slot} :
    ∀ (l : List Int) (s6 s7 s8 s9 : Slot), Vs s6 → Vs s7 → Vs s8 → Vs s9 →
      ∃ s6' s7' s8' s9', forS (run tab (k + 6)) [] false [6] b_law_edges_right_1 (l.map .int) [.val (drD pts fs), .val d1, .val md, .val (ptsT pts), .own (stD (dueM (pf pts) M (innerE fs))), s5, s6, s7, s8, s9] =
        .next [.val (drD pts fs), .val d1, .val md, .val (ptsT pts), .own (stD (dueM (pf pts) M (innerE fs))), s5, s6', s7', s8', s9']
  | [], s6, s7, s8, s9, h6, h7, h8, h9 => ⟨s6, s7, s8, s9, rfl⟩
  | a :: l, s6, s7, s8, s9, h6, h7, h8, h9 => by
    have np := h.np
    obtain ⟨s7', s8', s9', cl, r1, r2, r3⟩ := cell_loop (tab := tab) k h hm (d1 := d1) (d3 := ptsT pts) (s5 := s5) (a := a) (upto pts.length pts.length) s7 s8 s9 h7 h8 h9
    obtain ⟨s6', s7'', s8'', s9'', ih⟩ := row_loop k h hm (d1 := d1) (s5 := s5) l (.val (.int a)) s7' s8' s9' (.inr ⟨_, rfl⟩) r1 r2 r3
    refine ⟨s6', s7'', s8'', s9'', ?_⟩
    have rl := rng_len pts.length (by omega)
    have ad := upto_D pts.length (by omega) pts.length
    rw [List.map_cons, forS_cons, ← ih]
    clear ih
    generalize (upto pts.length pts.length).map D.int = UL at *
    generalize dueM (pf pts) M (innerE fs) = DM at *
    generalize idxs 0 pts.length = IL at *
    unfold stD at *
    simp [-ok_lend, okl_f, b_law_edges_right_1, rl, ad, cl]
variable [Has tab 39 f_law_common] [Has tab 40 f_law_low] [Has tab 42 f_law_sum] [Has tab 43 f_law_times] [Has tab 46 f_law_less] [Has tab 47 f_law_step] [Has tab 68 f_law_dot] [Has tab 69 f_law_stretch] [Has tab 77 f_law_edges_right]
theorem r_right (k : Nat) {pts : List Pt} {fs : List (List Nat)} {rim : List Nat} (h : Drawn pts fs rim) {md : D} {M : Nat → Pt} (hm : MoD md pts.length M) :
    run tab (k + 7) 77 [.val (drD pts fs), .val (fcsL (rowsL fs)), .val md] = .ret false (.bl true) [] := by
  have np := h.np
  obtain ⟨s5', lp1⟩ := due_loop (tab := tab) (k + 1) h hm (d0 := drD pts fs) (d1 := fcsL (rowsL fs)) (s6 := .emp) (s7 := .emp) (s8 := .emp) (s9 := .emp) (innerE fs) [] .emp rfl (.inl rfl)
  obtain ⟨s6', s7', s8', s9', lp2⟩ := row_loop (tab := tab) k h hm (d1 := fcsL (rowsL fs)) (s5 := s5') (upto pts.length (-1)) .emp .emp .emp .emp (.inl rfl) (.inl rfl) (.inl rfl) (.inl rfl)
  have rl := rng_len pts.length (by omega)
  have ad := upto_D pts.length (by omega) (-1)
  have it : itemsD (fcsL (rowsL fs)) = some ((innerE fs).map fun s => rD (rowOf fs s)) := by
    show some ((rowsL fs).map rD) = _
    unfold rowsL
    rw [List.map_map]; rfl
  have z : stD (dueM (pf pts) M []) = .dt [] := rfl
  rw [z] at lp1
  rw [run_at (i := 77) inferInstance]
  generalize (upto pts.length (-1)).map D.int = UL at *
  generalize dueM (pf pts) M (innerE fs) = DM at *
  generalize idxs 0 pts.length = IL at *
  generalize (innerE fs).map (fun s => rD (rowOf fs s)) = RL at *
  generalize fcsL (rowsL fs) = FL at *
  unfold stD at *
  simp [-ok_lend, okl_f, f_law_edges_right, rl, ad, it, lp1, lp2]
end
end Vm

/-! Ti7: the law of motions. -/
namespace Vm
open PySem L2 Geo
theorem eq_bl (a b : Bool) : eqD (.bl a) (.bl b) = some (a == b) := by cases a <;> cases b <;> rfl
theorem py_ns : ∀ l : List Nat, py.pys (l.map nD) = some (l.map fun (n : Nat) => PyData.int (n : Int)) := pys_cod (enc := nD)
theorem eq_nil (l : List Nat) : eqD (.lst (l.map nD)) (.lst []) = some (decide (l = [])) := by
  have c : Cod Nat nD := inferInstance
  unfold eqD
  show (match (py.pys (l.map nD)).map PyData.list, some (PyData.list []) with | some x, some y => (if SeqAt.shaped x = true ∧ SeqAt.shaped y = true then some (PyData.eqv x y) else none) | _, _ => none) = _
  rw [pys_cod (enc := nD)]
  show (if SeqAt.shaped (.list (l.map _)) = true ∧ SeqAt.shaped (.list []) = true then some (PyData.eqv (.list (l.map _)) (.list [])) else none) = _
  rw [if_pos ⟨shapedL_cod (enc := nD) l, rfl⟩]
  cases l with
  | nil => rfl
  | cons a r => rfl
theorem eq_pts (l : List Pt) : eqD (ptsL l) (ptsL l) = some true := by rw [eq_cod (enc := ptsL)]; simp
theorem mx_snoc (l : List Int) : ∃ m : Int, biD .max [.lst ((l ++ [0]).map .int)] = some (.int m) ∧ (m ≤ 0 ↔ maxd l ≤ 0) := by
  cases l with
  | nil => exact ⟨0, rfl, by simp [maxd]⟩
  | cons a r =>
    refine ⟨maxL a (r ++ [0]), ?_, ?_⟩
    · show (asInts (((a :: r) ++ [0]).map .int)).bind _ = _
      rw [asInts_i]; rfl
    · rw [maxd_le, maxL_le]
      simp
      intro h1
      constructor
      · intro h2 x hx
        exact h2 x (.inl hx)
      · intro h2 x hx
        rcases hx with hx | hx
        · exact h2 x hx
        · omega
theorem mn_snoc (l : List Int) : ∃ m : Int, biD .min [.lst ((l ++ [0]).map .int)] = some (.int m) ∧ (m < 0 ↔ mind l < 0) := by
  cases l with
  | nil => exact ⟨0, rfl, by simp [mind]⟩
  | cons a r =>
    refine ⟨minL a (r ++ [0]), ?_, ?_⟩
    · show (asInts (((a :: r) ++ [0]).map .int)).bind _ = _
      rw [asInts_i]; rfl
    · rw [mind_lt, minL_lt]
      simp
theorem add_z (l : List Int) (h : l.length ≤ 4000) : binD .add (.lst (l.map .int)) (.lst [.int 0]) = some (.lst ((l ++ [0]).map .int)) := by
  show (if (l.map D.int).length + ([D.int 0] : List D).length ≤ 16777216 then some (D.lst (l.map D.int ++ [D.int 0])) else none) = _
  rw [if_pos (by simp; omega), List.map_append]; rfl
theorem isi_bl (b : Bool) : isiD (.bl b) .bool = some true := rfl
def moving (M : Nat → Pt) (rim : List Nat) : List Nat := rim.filter fun n => !decide (M n = (0, 0))
theorem moving_nil (M : Nat → Pt) (rim : List Nat) : decide (moving M (fromLeast rim) = []) = decide (∀ c ∈ rim, M c = (0, 0)) := by
  refine decide_eq_decide.mpr ?_
  unfold moving
  rw [List.filter_eq_nil_iff]
  simp
  exact ⟨fun h c hc => h c ((fl_least _ _).mpr hc), fun h c hc => h c ((fl_least _ _).mp hc)⟩
section
variable {tab : Nat → Option Fn}
variable [Has tab 0 f_divisor] [Has tab 1 f_fraction] [Has tab 2 f_plus] [Has tab 3 f_minus] [Has tab 4 f_product] [Has tab 6 f_step_of] [Has tab 10 f_dotted] [Has tab 15 f_steps_of] [Has tab 16 f_ring_of] [Has tab 18 f_outer_ring] [Has tab 20 f_inner_edges]
variable [Has tab 37 f_law_draws] [Has tab 38 f_law_draw] [Has tab 39 f_law_common] [Has tab 40 f_law_low] [Has tab 41 f_law_figures] [Has tab 42 f_law_sum] [Has tab 43 f_law_times] [Has tab 45 f_law_often] [Has tab 46 f_law_less] [Has tab 47 f_law_step]
variable [Has tab 63 f_wings] [Has tab 64 f_lengthening] [Has tab 65 f_is_slack] [Has tab 66 f_law_rim_of] [Has tab 67 f_law_inner] [Has tab 68 f_law_dot] [Has tab 69 f_law_stretch] [Has tab 70 f_law_only] [Has tab 75 f_law_tried] [Has tab 76 f_law_motion] [Has tab 77 f_law_edges_right]
theorem k71_it (ns : List Int) {pts : List Pt} {fs : List (List Nat)} {rim : List Nat} (h : Drawn pts fs rim) {j : Nat} (hj : j ≤ 5) (r : List D) (s4 s8 s9 s10 s11 s13 s14 : Slot) :
    ∃ (mo : List Pt) (s9' s10' s11' s13' s14' : Slot), Mo pts.length mo ∧
      forS (run tab 19) [] false [4] b_law_k71_3 (nD j :: r) [.val (.sc ns), .val (drD pts fs), .own (fcsL (rowsL fs)), .val (rD (fromLeast rim)), s4, .emp, .val (ptsT pts), .val (fcsT fs), s8, s9, s10, s11, .emp, s13, s14, .emp, .emp] =
        forS (run tab 19) [] false [4] b_law_k71_3 r [.val (.sc ns), .val (drD pts fs), .own (fcsL (rowsL fs)), .val (rD (fromLeast rim)), .val (nD j), .emp, .val (ptsT pts), .val (fcsT fs), .own (ptsL mo), s9', s10', s11', .emp, s13', s14', .emp, .emp] := by
  obtain ⟨s, e0, hs⟩ := r_draws (tab := tab) ns (j := 15 + j) (by omega) 18
  obtain ⟨mo, s1, e1, hs1, hmo⟩ := r_motion (tab := tab) 14 h hs
  have hd := hmo.dat
  have e2 : run tab 19 77 [.val (drD pts fs), .val (fcsL (rowsL fs)), .val (ptsL mo)] = .ret false (.bl true) [] := r_right (tab := tab) 12 h hd
  have e3 : run tab 19 75 [.val (.int 1), .val (drD pts fs), .val (ptsL mo), .val (.int 0), .val (.int 0)] = .ret false (.tup [.bl (slackB (pf pts) (pf mo) fs rim), .lst []]) [] := tr_ok1 (tab := tab) 18 rfl (r_slack (tab := tab) 12 h hd)
  have e0 : run tab 19 37 [.val (.sc ns), .val (.int (15 + (j : Int)))] = .ret true (dD s) [] := by
    have c0 : (((15 + j : Nat)) : Int) = 15 + (j : Int) := by omega
    rw [c0] at e0; exact e0
  have e1 : run tab 19 76 [.own (dD s), .val (ptsT pts), .val (fcsT fs)] = .ret true (ptsL mo) [dD s1] := e1
  have li : biD .list [ptsL mo] = some (ptsL mo) := rfl
  have er : fcsL (rowsL fs) = .lst ((innerE fs).map fun s => rD (rowOf fs s)) := by
    unfold fcsL rowsL
    rw [List.map_map]; rfl
  have il := h.innerE_len
  have lo := h.lo
  have hi := h.hi
  have lf : (fromLeast rim).length = rim.length := rotAt_len _ _
  have cp := comp_own (call := run tab 19) (refs := []) (elt := e_law_k71_2) (tp := false) (ts := [15]) (i := 2) (cond := .none) (xs := innerE fs) (enc := fun s => rD (rowOf fs s))
    (e := [.val (.sc ns), .val (drD pts fs), .own (fcsL (rowsL fs)), .val (rD (fromLeast rim)), .val (nD j), .emp, .val (ptsT pts), .val (fcsT fs), .own (ptsL mo), .own (ptsL mo), s10, s11, .emp, s13, s14, .emp, .emp]) (fun s => some (D.int (str (pf pts) (pf mo) s.1 s.2).num)) (by rw [er]; rfl) (by decide) rfl (by omega) (fun s hs => by
      refine ⟨[.val (.sc ns), .val (drD pts fs), .own (fcsL (rowsL fs)), .val (rD (fromLeast rim)), .val (nD j), .emp, .val (ptsT pts), .val (fcsT fs), .own (ptsL mo), .own (ptsL mo), s10, s11, .emp, s13, s14, .val (rD (rowOf fs s)), .emp], rfl, rfl, rfl, false, ?_⟩
      obtain ⟨hu, hv⟩ := h.step (innerE_mem hs).1
      have o : run tab 19 69 [.val (ptsT pts), .val (ptsL mo), .val (nD s.1), .val (nD s.2)] = .ret false (qD (str (pf pts) (pf mo) s.1 s.2)) [] := r_stretch (tab := tab) 14 h hd hu hv
      have i0 : idxD (rD (rowOf fs s)) (.int 0) = some (nD s.1) := rfl
      have i1 : idxD (rD (rowOf fs s)) (.int 1) = some (nD s.2) := rfl
      generalize rowOf fs s = R at *
      simp [-ok_lend, okl_f, e_law_k71_2, i0, i1, o])
  have ef : (innerE fs).filterMap (fun s => some (D.int (str (pf pts) (pf mo) s.1 s.2).num)) = (topsL (pf pts) (pf mo) fs).map .int := by
    unfold topsL
    rw [List.map_map]
    show (innerE fs).filterMap (some ∘ (D.int ∘ fun s => (str (pf pts) (pf mo) s.1 s.2).num)) = _
    rw [List.filterMap_eq_map]
  rw [ef] at cp
  have lt : (topsL (pf pts) (pf mo) fs).length ≤ 4000 := by unfold topsL; rw [List.length_map]; omega
  have az := add_z _ lt
  obtain ⟨mx, b1, b2⟩ := mx_snoc (topsL (pf pts) (pf mo) fs)
  obtain ⟨mn, b3, b4⟩ := mn_snoc (topsL (pf pts) (pf mo) fs)
  have cq := comp_same (call := run tab 19) (refs := []) (elt := e_law_k71_1) (tp := false) (ts := [16]) (src := .own 3) (cond := t_law_k71_1) (xs := fromLeast rim) (enc := nD)
    (e := [.val (.sc ns), .val (drD pts fs), .own (fcsL (rowsL fs)), .val (rD (fromLeast rim)), .val (nD j), .emp, .val (ptsT pts), .val (fcsT fs), .own (ptsL mo), .own (ptsL mo), .own (.lst ((topsL (pf pts) (pf mo) fs ++ [0]).map .int)), s11, .emp, s13, s14, .emp, .emp])
    (fun n => if pf mo n = (0, 0) then none else some (nD n)) (by simp) rfl (by omega) (fun n hn => by
      refine ⟨[.val (.sc ns), .val (drD pts fs), .own (fcsL (rowsL fs)), .val (rD (fromLeast rim)), .val (nD j), .emp, .val (ptsT pts), .val (fcsT fs), .own (ptsL mo), .own (ptsL mo), .own (.lst ((topsL (pf pts) (pf mo) fs ++ [0]).map .int)), s11, .emp, s13, s14, .emp, .val (nD n)], rfl, rfl, ?_⟩
      have i := (hd.ix n (h.lt n ((fl_least _ _).mp hn))).1
      have z := q_zero
      by_cases hz : pf mo n = (0, 0)
      · rw [if_pos hz]
        simp [t_law_k71_1, i, z, hz]
      · rw [if_neg hz]
        exact ⟨by simp [t_law_k71_1, i, z, hz], false, by simp [e_law_k71_1]⟩)
  have eg : (fromLeast rim).filterMap (fun n => if pf mo n = (0, 0) then none else some (nD n)) = (moving (pf mo) (fromLeast rim)).map nD := by
    unfold moving
    rw [← List.filterMap_eq_map, List.filterMap_filter]
    congr 1
    funext x
    by_cases hm : pf mo x = (0, 0) <;> simp [hm]
  rw [eg] at cq
  have en := eq_nil (moving (pf mo) (fromLeast rim))
  rw [moving_nil] at en
  have eb := eq_bl
  have ep := eq_pts mo
  have e00 := eq_nn
  have sb : slackB (pf pts) (pf mo) fs rim = (decide (∀ c ∈ rim, pf mo c = (0, 0)) && (decide (mx ≤ 0) && decide (mn < 0))) := by
    unfold slackB
    rw [decide_eq_decide.mpr b2, decide_eq_decide.mpr b4]
  rw [sb] at e3
  refine ⟨mo, .val (ptsL mo), .own (.lst ((topsL (pf pts) (pf mo) fs ++ [0]).map .int)), .val (.bl (decide (∀ c ∈ rim, pf mo c = (0, 0)))), .val (.bl (decide (∀ c ∈ rim, pf mo c = (0, 0)) && (decide (mx ≤ 0) && decide (mn < 0)))), .val (.lst []), hmo, ?_⟩
  rw [forS_cons]
  have nj : nD j = .int (j : Int) := rfl
  clear er ef eg sb hd b2 b4 lt
  generalize decide (∀ c ∈ rim, pf mo c = (0, 0)) = B1 at *
  generalize ((topsL (pf pts) (pf mo) fs ++ [0]).map D.int) = T1 at *
  generalize (topsL (pf pts) (pf mo) fs).map D.int = T2 at *
  generalize (moving (pf mo) (fromLeast rim)).map nD = T3 at *
  generalize fcsL (rowsL fs) = RL at *
  rw [nj] at *
  by_cases hk : j < 2
  · have hk' : (j : Int) < 2 := by omega
    cases B1 <;> by_cases c1 : mx ≤ 0 <;> by_cases c2 : mn < 0 <;> simp [-ok_lend, okl_f, b_law_k71_3, e0, e1, li, hk, hk', e2, cp, az, cq, en, e3, e00, ep, b1, b3, eb, isi_bl, c1, c2]
  · have hk' : ¬ (j : Int) < 2 := by omega
    cases B1 <;> by_cases c1 : mx ≤ 0 <;> by_cases c2 : mn < 0 <;> simp [-ok_lend, okl_f, b_law_k71_3, e0, e1, li, hk, hk', e2, cp, az, cq, en, e3, e00, ep, b1, b3, eb, isi_bl, c1, c2]
end
end Vm

/-! Ti8: the law of motions. -/
namespace Vm
open PySem L2 Geo
section
variable {tab : Nat → Option Fn}
variable [Has tab 0 f_divisor] [Has tab 1 f_fraction] [Has tab 2 f_plus] [Has tab 3 f_minus] [Has tab 4 f_product] [Has tab 6 f_step_of] [Has tab 10 f_dotted] [Has tab 15 f_steps_of] [Has tab 16 f_ring_of] [Has tab 18 f_outer_ring] [Has tab 20 f_inner_edges]
variable [Has tab 37 f_law_draws] [Has tab 38 f_law_draw] [Has tab 39 f_law_common] [Has tab 40 f_law_low] [Has tab 41 f_law_figures] [Has tab 42 f_law_sum] [Has tab 43 f_law_times] [Has tab 45 f_law_often] [Has tab 46 f_law_less] [Has tab 47 f_law_step]
variable [Has tab 63 f_wings] [Has tab 64 f_lengthening] [Has tab 65 f_is_slack] [Has tab 66 f_law_rim_of] [Has tab 67 f_law_inner] [Has tab 68 f_law_dot] [Has tab 69 f_law_stretch] [Has tab 70 f_law_only] [Has tab 75 f_law_tried] [Has tab 76 f_law_motion] [Has tab 77 f_law_edges_right]
theorem k71_its (ns : List Int) {pts : List Pt} {fs : List (List Nat)} {rim : List Nat} (h : Drawn pts fs rim) : ∀ (m j : Nat) (s4 s8 s9 s10 s11 s13 s14 : Slot), j + m ≤ 5 →
    ∃ (mo : List Pt) (s4' s9' s10' s11' s13' s14' : Slot), Mo pts.length mo ∧
      forS (run tab 19) [] false [4] b_law_k71_3 (idxs j (m + 1)) [.val (.sc ns), .val (drD pts fs), .own (fcsL (rowsL fs)), .val (rD (fromLeast rim)), s4, .emp, .val (ptsT pts), .val (fcsT fs), s8, s9, s10, s11, .emp, s13, s14, .emp, .emp] =
        .next [.val (.sc ns), .val (drD pts fs), .own (fcsL (rowsL fs)), .val (rD (fromLeast rim)), s4', .emp, .val (ptsT pts), .val (fcsT fs), .own (ptsL mo), s9', s10', s11', .emp, s13', s14', .emp, .emp]
  | 0, j, s4, s8, s9, s10, s11, s13, s14, hj => by
    obtain ⟨mo, a, b, c, d, e, hm, h1⟩ := k71_it (tab := tab) ns h (j := j) (by omega) [] s4 s8 s9 s10 s11 s13 s14
    exact ⟨mo, _, a, b, c, d, e, hm, by rw [idxs_succ, idxs_zero, h1]; rfl⟩
  | m + 1, j, s4, s8, s9, s10, s11, s13, s14, hj => by
    obtain ⟨mo, a, b, c, d, e, _, h1⟩ := k71_it (tab := tab) ns h (j := j) (by omega) (idxs (j + 1) (m + 1)) s4 s8 s9 s10 s11 s13 s14
    obtain ⟨mo', x, a', b', c', d', e', hm, h2⟩ := k71_its ns h m (j + 1) (.val (nD j)) (.own (ptsL mo)) a b c d e (by omega)
    exact ⟨mo', x, a', b', c', d', e', hm, by rw [idxs_succ, h1, h2]⟩
theorem k71_odd {pts : List Pt} {fs : List (List Nat)} {rim : List Nat} (h : Drawn pts fs rim) {odd : List Pt} (ho : odd.length ≠ pts.length) (w : Nat) (hw : w < 2) (a b : D) :
    run tab 19 75 [.val (.int (w : Nat)), .val (drD pts fs), .val (ptsL odd), .val (.int 0), .val (.int 0)] = .ret false (.tup [.non, kUnlike]) [] := by
  have ln : biD .len [ptsL odd] = some (.int (odd.length : Nat)) := len_ptsL odd
  rcases (show w = 0 ∨ w = 1 by omega) with rfl | rfl
  · exact tr_un0 (tab := tab) 18 (r_length_un (tab := tab) 13 ln ho _ _)
  · exact tr_un1 (tab := tab) 18 (r_slack_un (tab := tab) 12 ln ho)
theorem odd_loop {pts : List Pt} {fs : List (List Nat)} {rim : List Nat} (h : Drawn pts fs rim) {s0 s2 s3 s4 s6 s7 s8 s9 s10 s11 s13 s14 s15 s16 : Slot} : ∀ (l : List (List Pt)) (s5 s12 : Slot), (∀ o ∈ l, o.length ≠ pts.length) →
    ∃ s5' s12', forS (run tab 19) [] false [5] b_law_k71_1 (l.map ptsL) [s0, .val (drD pts fs), s2, s3, s4, s5, s6, s7, s8, s9, s10, s11, s12, s13, s14, s15, s16] = .next [s0, .val (drD pts fs), s2, s3, s4, s5', s6, s7, s8, s9, s10, s11, s12', s13, s14, s15, s16]
  | [], s5, s12, _ => ⟨s5, s12, rfl⟩
  | o :: l, s5, s12, ho => by
    have t0 := k71_odd (tab := tab) h (ho o List.mem_cons_self) 0 (by decide) .non .non
    have t1 := k71_odd (tab := tab) h (ho o List.mem_cons_self) 1 (by decide) .non .non
    have only : run tab 19 70 [.val (.str "unlike")] = .ret true (kinds "unlike") [] := r_only (tab := tab) 18 ok_unlike
    rw [k_unlike] at only
    have rl : rngD [.int 2] = some (idxs 0 2) := rng_len 2 (by decide)
    have i2 : idxs 0 2 = [.int 0, .int 1] := rfl
    rw [i2] at rl
    have eu := eq_uu
    have lK : isL kUnlike = true := rfl
    have lk : okLend true kUnlike = true := rfl
    have fK : flat kUnlike = false := rfl
    have t0 : run tab 19 75 [.val (.int 0), .val (drD pts fs), .val (ptsL o), .val (.int 0), .val (.int 0)] = .ret false (.tup [.non, kUnlike]) [] := t0
    have t1 : run tab 19 75 [.val (.int 1), .val (drD pts fs), .val (ptsL o), .val (.int 0), .val (.int 0)] = .ret false (.tup [.non, kUnlike]) [] := t1
    obtain ⟨s5', s12', ih⟩ := odd_loop h (s0 := s0) (s2 := s2) (s3 := s3) (s4 := s4) (s6 := s6) (s7 := s7) (s8 := s8) (s9 := s9) (s10 := s10) (s11 := s11) (s13 := s13) (s14 := s14) (s15 := s15) (s16 := s16) l (.val (ptsL o)) (.val (.int 1)) (fun x hx => ho x (List.mem_cons_of_mem _ hx))
    refine ⟨s5', s12', ?_⟩
    rw [List.map_cons, forS_cons, ← ih]
    clear ih
    generalize kUnlike = K at *
    simp [-ok_lend, okl_f, b_law_k71_1, b_law_k71_2, rl, t0, t1, only, eu, lK, lk, fK, C.d, forS_cons]
variable [Has tab 44 f_law_put] [Has tab 48 f_law_far] [Has tab 49 f_law_rim] [Has tab 50 f_law_poked] [Has tab 51 f_law_inside] [Has tab 52 f_law_sides] [Has tab 53 f_law_joined] [Has tab 54 f_law_cross] [Has tab 55 f_law_hand] [Has tab 56 f_law_bayless] [Has tab 59 f_law_renumbered] [Has tab 60 f_law_from_least] [Has tab 61 f_law_due] [Has tab 71 f_law_cut] [Has tab 72 f_law_merged] [Has tab 73 f_law_built] [Has tab 74 f_law_drawing] [Has tab 78 f_law_k71]
theorem r_k71 (ns : List Int) : run tab 20 78 [.val (.sc ns)] = .ret false (.bl true) [] := by
  obtain ⟨pts, fs, rim, e1, h⟩ := r_drawing (tab := tab) 10 ns (first := 0) (most := 12) (inner := 6) (by decide) (by decide) (by decide)
  have e1 : run tab 19 74 [.val (.sc ns), .val (.int 0), .val (.int 12), .val (.int 6)] = .ret false (drD pts fs) [] := e1
  have e2 : run tab 19 52 [.val (fcsT fs)] = .ret true (fcsL (rowsL fs)) [] := r_sides (tab := tab) 18 (Fc.tup fs) h.blt.fok
  have e3 : run tab 19 66 [.val (fcsT fs)] = .ret false (rD (fromLeast rim)) [] := r_lrim (tab := tab) 18 h
  obtain ⟨mo, s4, s9, s10, s11, s13, s14, hm, lp1⟩ := k71_its (tab := tab) ns h 5 0 .emp .emp .emp .emp .emp .emp .emp (by omega)
  have np := h.np
  have lm := hm.len
  have rl : rngD [.int 6] = some (idxs 0 6) := rng_len 6 (by decide)
  have i0 : idxD (ptsL mo) (.int 0) = some (pD (pf mo 0)) := (ix_pf (l := mo) (k := 0) (by omega)).1
  have ad : binD .add (ptsL mo) (.lst [pD (pf mo 0)]) = some (ptsL (mo ++ [pf mo 0])) := add_pts (m := [pf mo 0]) (by simp; omega)
  have sl : slcD (ptsL mo) (some 1) none = some (ptsL (mo.drop 1)) := slc_pts_from mo 1
  obtain ⟨s5', s12', lp2⟩ := odd_loop (tab := tab) h (s0 := .val (.sc ns)) (s2 := .own (fcsL (rowsL fs))) (s3 := .val (rD (fromLeast rim))) (s4 := s4) (s6 := .val (ptsT pts)) (s7 := .val (fcsT fs)) (s8 := .own (ptsL mo)) (s9 := s9) (s10 := s10) (s11 := s11) (s13 := s13) (s14 := s14) (s15 := .emp) (s16 := .emp) [mo ++ [pf mo 0], mo.drop 1] .emp .emp (by
    intro o ho
    rcases List.mem_cons.mp ho with e | ho
    · rw [e, List.length_append, lm]; show pts.length + 1 ≠ _; omega
    · rw [List.mem_singleton.mp ho, List.length_drop, lm]; omega)
  have lp2 : forS (run tab 19) [] false [5] b_law_k71_1 [ptsL (mo ++ [pf mo 0]), ptsL (mo.drop 1)] _ = _ := lp2
  have dr : drD pts fs = .tup [ptsT pts, fcsT fs] := rfl
  rw [run_at (i := 78) inferInstance]
  have lp1 : forS (run tab 19) [] false [4] b_law_k71_3 (idxs 0 6) _ = _ := lp1
  generalize fcsL (rowsL fs) = RL at *
  generalize mo ++ [pf mo 0] = O1 at *
  generalize mo.drop 1 = O2 at *
  generalize idxs 0 6 = I6 at *
  unfold drD at *
  simp [-ok_lend, okl_f, f_law_k71, e1, e2, e3, rl, lp1, lp2, i0, ad, sl]
end
end Vm

namespace L71
open PySem PySem.Spec PyProof.Rows L2 Vm
def top (i : Nat) : Stmt := PySem.Challenge.pw_roofweb_k71_motions.main.body.getD i (.Pass ⟨0, 0, 0, 0⟩)
def r_0 : LRow := ⟨0, "divisor", 17, ["one", "other"], ["one", "other"], f_divisor⟩
def r_1 : LRow := ⟨1, "fraction", 18, ["top", "bottom", "many"], ["top", "bottom"], f_fraction⟩
def r_2 : LRow := ⟨2, "plus", 19, ["one", "other"], ["one", "other"], f_plus⟩
def r_3 : LRow := ⟨3, "minus", 20, ["one", "other"], ["one", "other"], f_minus⟩
def r_4 : LRow := ⟨4, "product", 21, ["one", "other"], ["one", "other"], f_product⟩
def r_5 : LRow := ⟨6, "step_of", 23, ["one", "other"], ["one", "other"], f_step_of⟩
def r_6 : LRow := ⟨10, "dotted", 24, ["one", "other"], ["one", "other"], f_dotted⟩
def r_7 : LRow := ⟨15, "steps_of", 26, ["faces", "steps", "k", "face", "j", "step"], ["faces"], f_steps_of⟩
def r_8 : LRow := ⟨16, "ring_of", 27, ["steps", "onward", "step", "ring"], ["steps"], f_ring_of⟩
def r_9 : LRow := ⟨18, "outer_ring", 28, ["drawing"], ["drawing"], f_outer_ring⟩
def r_10 : LRow := ⟨20, "inner_edges", 29, ["drawing", "steps", "step"], ["drawing"], f_inner_edges⟩
def r_11 : LRow := ⟨63, "wings", 30, ["drawing", "one", "other", "steps"], ["drawing", "one", "other"], f_wings⟩
def r_12 : LRow := ⟨64, "lengthening", 32, ["drawing", "motion", "one", "other"], ["drawing", "motion", "one", "other"], f_lengthening⟩
def r_13 : LRow := ⟨65, "is_slack", 33, ["drawing", "motion", "corner", "tops", "edge"], ["drawing", "motion"], f_is_slack⟩
def r_14 : LRow := ⟨66, "_law_rim_of", 35, ["faces", "steps", "face", "onward", "step", "ring", "k", "j"], ["faces"], f_law_rim_of⟩
def r_15 : LRow := ⟨67, "_law_inner", 36, ["points", "faces", "rim", "k"], ["points", "faces"], f_law_inner⟩
def r_16 : LRow := ⟨38, "_law_draw", 37, ["draws", "many", "found"], ["draws", "many"], f_law_draw⟩
def r_17 : LRow := ⟨39, "_law_common", 38, ["one", "other"], ["one", "other"], f_law_common⟩
def r_18 : LRow := ⟨40, "_law_low", 39, ["top", "bottom", "many"], ["top", "bottom"], f_law_low⟩
def r_19 : LRow := ⟨41, "_law_figures", 40, ["draws", "most", "number", "k"], ["draws", "most"], f_law_figures⟩
def r_20 : LRow := ⟨43, "_law_times", 41, ["one", "other"], ["one", "other"], f_law_times⟩
def r_21 : LRow := ⟨45, "_law_often", 42, ["step", "many"], ["step", "many"], f_law_often⟩
def r_22 : LRow := ⟨46, "_law_less", 43, ["one", "other"], ["one", "other"], f_law_less⟩
def r_23 : LRow := ⟨47, "_law_step", 44, ["one", "other"], ["one", "other"], f_law_step⟩
def r_24 : LRow := ⟨42, "_law_sum", 45, ["one", "other"], ["one", "other"], f_law_sum⟩
def r_25 : LRow := ⟨68, "_law_dot", 46, ["one", "other"], ["one", "other"], f_law_dot⟩
def r_26 : LRow := ⟨69, "_law_stretch", 47, ["points", "motion", "one", "other"], ["points", "motion", "one", "other"], f_law_stretch⟩
def r_27 : LRow := ⟨70, "_law_only", 48, ["which", "names", "name"], ["which"], f_law_only⟩
def r_28 : LRow := ⟨37, "_law_draws", 49, ["script", "k", "cell"], ["script", "k"], f_law_draws⟩
def r_29 : LRow := ⟨44, "_law_put", 50, ["points", "draws", "lean", "rise", "wide", "away", "aside", "made", "x", "y"], ["points", "draws"], f_law_put⟩
def r_30 : LRow := ⟨48, "_law_far", 51, ["spot", "step"], ["spot", "step"], f_law_far⟩
def r_31 : LRow := ⟨49, "_law_rim", 52, ["draws", "way", "points", "k", "rim", "at", "near", "onward", "ends", "x", "y"], ["draws"], f_law_rim⟩
def r_32 : LRow := ⟨51, "_law_inside", 53, ["points", "face", "draws", "total", "spot", "corner", "weight"], ["points", "face", "draws"], f_law_inside⟩
def r_33 : LRow := ⟨50, "_law_poked", 54, ["points", "faces", "at", "spot", "face", "made", "j"], ["points", "faces", "at", "spot"], f_law_poked⟩
def r_34 : LRow := ⟨71, "_law_cut", 55, ["faces", "at", "draws", "face", "begin", "end"], ["faces", "at", "draws"], f_law_cut⟩
def r_35 : LRow := ⟨52, "_law_sides", 56, ["faces", "found", "k", "rows", "step", "j", "back"], ["faces"], f_law_sides⟩
def r_36 : LRow := ⟨53, "_law_joined", 57, ["one", "other", "faces", "left", "right", "first", "second", "at", "back"], ["one", "other", "faces", "left", "right"], f_law_joined⟩
def r_37 : LRow := ⟨54, "_law_cross", 58, ["one", "other"], ["one", "other"], f_law_cross⟩
def r_38 : LRow := ⟨55, "_law_hand", 59, ["one", "other", "third", "top"], ["one", "other", "third"], f_law_hand⟩
def r_39 : LRow := ⟨56, "_law_bayless", 60, ["points", "ring", "k", "one", "other", "n"], ["points", "ring"], f_law_bayless⟩
def r_40 : LRow := ⟨72, "_law_merged", 61, ["points", "faces", "draws", "rows", "ring", "rest", "one", "other", "left", "right", "k"], ["points", "faces", "draws"], f_law_merged⟩
def r_41 : LRow := ⟨73, "_law_built", 62, ["script", "first", "most", "inner", "draws", "points", "rim", "faces", "k", "at", "way", "spot"], ["script", "first", "most", "inner"], f_law_built⟩
def r_42 : LRow := ⟨59, "_law_renumbered", 63, ["points", "faces", "draws", "order", "k", "place", "made", "face", "begin", "ring", "corner"], ["points", "faces", "draws"], f_law_renumbered⟩
def r_43 : LRow := ⟨60, "_law_from_least", 64, ["face", "at"], ["face"], f_law_from_least⟩
def r_44 : LRow := ⟨61, "_law_due", 65, ["points", "faces", "face"], ["points", "faces"], f_law_due⟩
def r_45 : LRow := ⟨74, "_law_drawing", 66, ["script", "first", "most", "inner", "draws", "points", "faces"], ["script", "first", "most", "inner"], f_law_drawing⟩
def r_46 : LRow := ⟨75, "_law_tried", 67, ["way", "drawing", "motion", "one", "other", "found", "kinds", "e"], ["way", "drawing", "motion", "one", "other"], f_law_tried⟩
def r_47 : LRow := ⟨76, "_law_motion", 68, ["draws", "points", "faces", "inner", "way", "goal", "many", "motion", "n", "rim"], ["draws", "points", "faces"], f_law_motion⟩
def r_48 : LRow := ⟨77, "_law_edges_right", 69, ["drawing", "rows", "motion", "points", "due", "row", "one", "other", "found", "kinds"], ["drawing", "rows", "motion"], f_law_edges_right⟩
def r_49 : LRow := ⟨78, "law", 70, ["script", "drawing", "rows", "rim", "k", "odd", "points", "faces", "motion", "handed", "tops", "still", "way", "found", "kinds", "row", "n"], ["script"], f_law_k71⟩
def exR : List Ex := [.NoDrawing, .NoEdge, .NoNumber, .Unlike]
def exC : List Ex := [.NoNumber, .NoDrawing, .NoEdge, .NoCorner, .Unlike, .NoBalance, .NoRoof, .NoTurned, .NoSites, .NoPulls, .TooMany, .NoText, .NoName, .NoRow]
def dl0 : List LRow := [r_0, r_1, r_2, r_3, r_4, r_5, r_6, r_7, r_8, r_9, r_10, r_11, r_12, r_13, r_14, r_15, r_16, r_17, r_18, r_19]
def dl1 : List LRow := [r_20, r_21, r_22, r_23, r_24, r_25, r_26, r_27, r_28, r_29, r_30, r_31, r_32, r_33, r_34, r_35, r_36, r_37, r_38, r_39]
def dl2 : List LRow := [r_40, r_41, r_42, r_43, r_44, r_45, r_46, r_47, r_48, r_49]
def dl : List LRow := dl0 ++ dl1 ++ dl2
instance : Has (tabOf dl) 0 f_divisor := ⟨rfl⟩
instance : Has (tabOf dl) 1 f_fraction := ⟨rfl⟩
instance : Has (tabOf dl) 2 f_plus := ⟨rfl⟩
instance : Has (tabOf dl) 3 f_minus := ⟨rfl⟩
instance : Has (tabOf dl) 4 f_product := ⟨rfl⟩
instance : Has (tabOf dl) 6 f_step_of := ⟨rfl⟩
instance : Has (tabOf dl) 10 f_dotted := ⟨rfl⟩
instance : Has (tabOf dl) 15 f_steps_of := ⟨rfl⟩
instance : Has (tabOf dl) 16 f_ring_of := ⟨rfl⟩
instance : Has (tabOf dl) 18 f_outer_ring := ⟨rfl⟩
instance : Has (tabOf dl) 20 f_inner_edges := ⟨rfl⟩
instance : Has (tabOf dl) 63 f_wings := ⟨rfl⟩
instance : Has (tabOf dl) 64 f_lengthening := ⟨rfl⟩
instance : Has (tabOf dl) 65 f_is_slack := ⟨rfl⟩
instance : Has (tabOf dl) 66 f_law_rim_of := ⟨rfl⟩
instance : Has (tabOf dl) 67 f_law_inner := ⟨rfl⟩
instance : Has (tabOf dl) 38 f_law_draw := ⟨rfl⟩
instance : Has (tabOf dl) 39 f_law_common := ⟨rfl⟩
instance : Has (tabOf dl) 40 f_law_low := ⟨rfl⟩
instance : Has (tabOf dl) 41 f_law_figures := ⟨rfl⟩
instance : Has (tabOf dl) 43 f_law_times := ⟨rfl⟩
instance : Has (tabOf dl) 45 f_law_often := ⟨rfl⟩
instance : Has (tabOf dl) 46 f_law_less := ⟨rfl⟩
instance : Has (tabOf dl) 47 f_law_step := ⟨rfl⟩
instance : Has (tabOf dl) 42 f_law_sum := ⟨rfl⟩
instance : Has (tabOf dl) 68 f_law_dot := ⟨rfl⟩
instance : Has (tabOf dl) 69 f_law_stretch := ⟨rfl⟩
instance : Has (tabOf dl) 70 f_law_only := ⟨rfl⟩
instance : Has (tabOf dl) 37 f_law_draws := ⟨rfl⟩
instance : Has (tabOf dl) 44 f_law_put := ⟨rfl⟩
instance : Has (tabOf dl) 48 f_law_far := ⟨rfl⟩
instance : Has (tabOf dl) 49 f_law_rim := ⟨rfl⟩
instance : Has (tabOf dl) 51 f_law_inside := ⟨rfl⟩
instance : Has (tabOf dl) 50 f_law_poked := ⟨rfl⟩
instance : Has (tabOf dl) 71 f_law_cut := ⟨rfl⟩
instance : Has (tabOf dl) 52 f_law_sides := ⟨rfl⟩
instance : Has (tabOf dl) 53 f_law_joined := ⟨rfl⟩
instance : Has (tabOf dl) 54 f_law_cross := ⟨rfl⟩
instance : Has (tabOf dl) 55 f_law_hand := ⟨rfl⟩
instance : Has (tabOf dl) 56 f_law_bayless := ⟨rfl⟩
instance : Has (tabOf dl) 72 f_law_merged := ⟨rfl⟩
instance : Has (tabOf dl) 73 f_law_built := ⟨rfl⟩
instance : Has (tabOf dl) 59 f_law_renumbered := ⟨rfl⟩
instance : Has (tabOf dl) 60 f_law_from_least := ⟨rfl⟩
instance : Has (tabOf dl) 61 f_law_due := ⟨rfl⟩
instance : Has (tabOf dl) 74 f_law_drawing := ⟨rfl⟩
instance : Has (tabOf dl) 75 f_law_tried := ⟨rfl⟩
instance : Has (tabOf dl) 76 f_law_motion := ⟨rfl⟩
instance : Has (tabOf dl) 77 f_law_edges_right := ⟨rfl⟩
instance : Has (tabOf dl) 78 f_law_k71 := ⟨rfl⟩
theorem b_0 : BindsP top r_0 := fun _ _ _ _ _ _ us hl => match us, hl with | [_, _], _ => rfl
theorem b_1 : BindsP top r_1 := fun _ _ _ _ _ _ us hl => match us, hl with | [_, _], _ => rfl
theorem b_2 : BindsP top r_2 := fun _ _ _ _ _ _ us hl => match us, hl with | [_, _], _ => rfl
theorem b_3 : BindsP top r_3 := fun _ _ _ _ _ _ us hl => match us, hl with | [_, _], _ => rfl
theorem b_4 : BindsP top r_4 := fun _ _ _ _ _ _ us hl => match us, hl with | [_, _], _ => rfl
theorem b_5 : BindsP top r_5 := fun _ _ _ _ _ _ us hl => match us, hl with | [_, _], _ => rfl
theorem b_6 : BindsP top r_6 := fun _ _ _ _ _ _ us hl => match us, hl with | [_, _], _ => rfl
theorem b_7 : BindsP top r_7 := fun _ _ _ _ _ _ us hl => match us, hl with | [_], _ => rfl
theorem b_8 : BindsP top r_8 := fun _ _ _ _ _ _ us hl => match us, hl with | [_], _ => rfl
theorem b_9 : BindsP top r_9 := fun _ _ _ _ _ _ us hl => match us, hl with | [_], _ => rfl
theorem b_10 : BindsP top r_10 := fun _ _ _ _ _ _ us hl => match us, hl with | [_], _ => rfl
theorem b_11 : BindsP top r_11 := fun _ _ _ _ _ _ us hl => match us, hl with | [_, _, _], _ => rfl
theorem b_12 : BindsP top r_12 := fun _ _ _ _ _ _ us hl => match us, hl with | [_, _, _, _], _ => rfl
theorem b_13 : BindsP top r_13 := fun _ _ _ _ _ _ us hl => match us, hl with | [_, _], _ => rfl
theorem b_14 : BindsP top r_14 := fun _ _ _ _ _ _ us hl => match us, hl with | [_], _ => rfl
theorem b_15 : BindsP top r_15 := fun _ _ _ _ _ _ us hl => match us, hl with | [_, _], _ => rfl
theorem b_16 : BindsP top r_16 := fun _ _ _ _ _ _ us hl => match us, hl with | [_, _], _ => rfl
theorem b_17 : BindsP top r_17 := fun _ _ _ _ _ _ us hl => match us, hl with | [_, _], _ => rfl
theorem b_18 : BindsP top r_18 := fun _ _ _ _ _ _ us hl => match us, hl with | [_, _], _ => rfl
theorem b_19 : BindsP top r_19 := fun _ _ _ _ _ _ us hl => match us, hl with | [_, _], _ => rfl
theorem b_20 : BindsP top r_20 := fun _ _ _ _ _ _ us hl => match us, hl with | [_, _], _ => rfl
theorem b_21 : BindsP top r_21 := fun _ _ _ _ _ _ us hl => match us, hl with | [_, _], _ => rfl
theorem b_22 : BindsP top r_22 := fun _ _ _ _ _ _ us hl => match us, hl with | [_, _], _ => rfl
theorem b_23 : BindsP top r_23 := fun _ _ _ _ _ _ us hl => match us, hl with | [_, _], _ => rfl
theorem b_24 : BindsP top r_24 := fun _ _ _ _ _ _ us hl => match us, hl with | [_, _], _ => rfl
theorem b_25 : BindsP top r_25 := fun _ _ _ _ _ _ us hl => match us, hl with | [_, _], _ => rfl
theorem b_26 : BindsP top r_26 := fun _ _ _ _ _ _ us hl => match us, hl with | [_, _, _, _], _ => rfl
theorem b_27 : BindsP top r_27 := fun _ _ _ _ _ _ us hl => match us, hl with | [_], _ => rfl
theorem b_28 : BindsP top r_28 := fun _ _ _ _ _ _ us hl => match us, hl with | [_, _], _ => rfl
theorem b_29 : BindsP top r_29 := fun _ _ _ _ _ _ us hl => match us, hl with | [_, _], _ => rfl
theorem b_30 : BindsP top r_30 := fun _ _ _ _ _ _ us hl => match us, hl with | [_, _], _ => rfl
theorem b_31 : BindsP top r_31 := fun _ _ _ _ _ _ us hl => match us, hl with | [_], _ => rfl
theorem b_32 : BindsP top r_32 := fun _ _ _ _ _ _ us hl => match us, hl with | [_, _, _], _ => rfl
theorem b_33 : BindsP top r_33 := fun _ _ _ _ _ _ us hl => match us, hl with | [_, _, _, _], _ => rfl
theorem b_34 : BindsP top r_34 := fun _ _ _ _ _ _ us hl => match us, hl with | [_, _, _], _ => rfl
theorem b_35 : BindsP top r_35 := fun _ _ _ _ _ _ us hl => match us, hl with | [_], _ => rfl
theorem b_36 : BindsP top r_36 := fun _ _ _ _ _ _ us hl => match us, hl with | [_, _, _, _, _], _ => rfl
theorem b_37 : BindsP top r_37 := fun _ _ _ _ _ _ us hl => match us, hl with | [_, _], _ => rfl
theorem b_38 : BindsP top r_38 := fun _ _ _ _ _ _ us hl => match us, hl with | [_, _, _], _ => rfl
theorem b_39 : BindsP top r_39 := fun _ _ _ _ _ _ us hl => match us, hl with | [_, _], _ => rfl
theorem b_40 : BindsP top r_40 := fun _ _ _ _ _ _ us hl => match us, hl with | [_, _, _], _ => rfl
theorem b_41 : BindsP top r_41 := fun _ _ _ _ _ _ us hl => match us, hl with | [_, _, _, _], _ => rfl
theorem b_42 : BindsP top r_42 := fun _ _ _ _ _ _ us hl => match us, hl with | [_, _, _], _ => rfl
theorem b_43 : BindsP top r_43 := fun _ _ _ _ _ _ us hl => match us, hl with | [_], _ => rfl
theorem b_44 : BindsP top r_44 := fun _ _ _ _ _ _ us hl => match us, hl with | [_, _], _ => rfl
theorem b_45 : BindsP top r_45 := fun _ _ _ _ _ _ us hl => match us, hl with | [_, _, _, _], _ => rfl
theorem b_46 : BindsP top r_46 := fun _ _ _ _ _ _ us hl => match us, hl with | [_, _, _, _, _], _ => rfl
theorem b_47 : BindsP top r_47 := fun _ _ _ _ _ _ us hl => match us, hl with | [_, _, _], _ => rfl
theorem b_48 : BindsP top r_48 := fun _ _ _ _ _ _ us hl => match us, hl with | [_, _, _], _ => rfl
theorem b_49 : BindsP top r_49 := fun _ _ _ _ _ _ us hl => match us, hl with | [_], _ => rfl
theorem ab0 : AllB top dl0 := .cons b_0 (.cons b_1 (.cons b_2 (.cons b_3 (.cons b_4 (.cons b_5 (.cons b_6 (.cons b_7 (.cons b_8 (.cons b_9 (.cons b_10 (.cons b_11 (.cons b_12 (.cons b_13 (.cons b_14 (.cons b_15 (.cons b_16 (.cons b_17 (.cons b_18 (.cons b_19 (.nil))))))))))))))))))))
theorem ab1 : AllB top dl1 := .cons b_20 (.cons b_21 (.cons b_22 (.cons b_23 (.cons b_24 (.cons b_25 (.cons b_26 (.cons b_27 (.cons b_28 (.cons b_29 (.cons b_30 (.cons b_31 (.cons b_32 (.cons b_33 (.cons b_34 (.cons b_35 (.cons b_36 (.cons b_37 (.cons b_38 (.cons b_39 (.nil))))))))))))))))))))
theorem ab2 : AllB top dl2 := .cons b_40 (.cons b_41 (.cons b_42 (.cons b_43 (.cons b_44 (.cons b_45 (.cons b_46 (.cons b_47 (.cons b_48 (.cons b_49 (.nil))))))))))
theorem ab : AllB top dl := ((ab0).append ab1).append ab2
theorem c_0 : chkD (nmOf dl) exR exC (r_0.dr top) = true := by decide +kernel
theorem c_1 : chkD (nmOf dl) exR exC (r_1.dr top) = true := by decide +kernel
theorem c_2 : chkD (nmOf dl) exR exC (r_2.dr top) = true := by decide +kernel
theorem c_3 : chkD (nmOf dl) exR exC (r_3.dr top) = true := by decide +kernel
theorem c_4 : chkD (nmOf dl) exR exC (r_4.dr top) = true := by decide +kernel
theorem c_5 : chkD (nmOf dl) exR exC (r_5.dr top) = true := by decide +kernel
theorem c_6 : chkD (nmOf dl) exR exC (r_6.dr top) = true := by decide +kernel
theorem c_7 : chkD (nmOf dl) exR exC (r_7.dr top) = true := by decide +kernel
theorem c_8 : chkD (nmOf dl) exR exC (r_8.dr top) = true := by decide +kernel
theorem c_9 : chkD (nmOf dl) exR exC (r_9.dr top) = true := by decide +kernel
theorem c_10 : chkD (nmOf dl) exR exC (r_10.dr top) = true := by decide +kernel
theorem c_11 : chkD (nmOf dl) exR exC (r_11.dr top) = true := by decide +kernel
theorem c_12 : chkD (nmOf dl) exR exC (r_12.dr top) = true := by decide +kernel
theorem c_13 : chkD (nmOf dl) exR exC (r_13.dr top) = true := by decide +kernel
theorem c_14 : chkD (nmOf dl) exR exC (r_14.dr top) = true := by decide +kernel
theorem c_15 : chkD (nmOf dl) exR exC (r_15.dr top) = true := by decide +kernel
theorem c_16 : chkD (nmOf dl) exR exC (r_16.dr top) = true := by decide +kernel
theorem c_17 : chkD (nmOf dl) exR exC (r_17.dr top) = true := by decide +kernel
theorem c_18 : chkD (nmOf dl) exR exC (r_18.dr top) = true := by decide +kernel
theorem c_19 : chkD (nmOf dl) exR exC (r_19.dr top) = true := by decide +kernel
theorem c_20 : chkD (nmOf dl) exR exC (r_20.dr top) = true := by decide +kernel
theorem c_21 : chkD (nmOf dl) exR exC (r_21.dr top) = true := by decide +kernel
theorem c_22 : chkD (nmOf dl) exR exC (r_22.dr top) = true := by decide +kernel
theorem c_23 : chkD (nmOf dl) exR exC (r_23.dr top) = true := by decide +kernel
theorem c_24 : chkD (nmOf dl) exR exC (r_24.dr top) = true := by decide +kernel
theorem c_25 : chkD (nmOf dl) exR exC (r_25.dr top) = true := by decide +kernel
theorem c_26 : chkD (nmOf dl) exR exC (r_26.dr top) = true := by decide +kernel
theorem c_27 : chkD (nmOf dl) exR exC (r_27.dr top) = true := by decide +kernel
theorem c_28 : chkD (nmOf dl) exR exC (r_28.dr top) = true := by decide +kernel
theorem c_29 : chkD (nmOf dl) exR exC (r_29.dr top) = true := by decide +kernel
theorem c_30 : chkD (nmOf dl) exR exC (r_30.dr top) = true := by decide +kernel
theorem c_31 : chkD (nmOf dl) exR exC (r_31.dr top) = true := by decide +kernel
theorem c_32 : chkD (nmOf dl) exR exC (r_32.dr top) = true := by decide +kernel
theorem c_33 : chkD (nmOf dl) exR exC (r_33.dr top) = true := by decide +kernel
theorem c_34 : chkD (nmOf dl) exR exC (r_34.dr top) = true := by decide +kernel
theorem c_35 : chkD (nmOf dl) exR exC (r_35.dr top) = true := by decide +kernel
theorem c_36 : chkD (nmOf dl) exR exC (r_36.dr top) = true := by decide +kernel
theorem c_37 : chkD (nmOf dl) exR exC (r_37.dr top) = true := by decide +kernel
theorem c_38 : chkD (nmOf dl) exR exC (r_38.dr top) = true := by decide +kernel
theorem c_39 : chkD (nmOf dl) exR exC (r_39.dr top) = true := by decide +kernel
theorem c_40 : chkD (nmOf dl) exR exC (r_40.dr top) = true := by decide +kernel
theorem c_41 : chkD (nmOf dl) exR exC (r_41.dr top) = true := by decide +kernel
theorem c_42 : chkD (nmOf dl) exR exC (r_42.dr top) = true := by decide +kernel
theorem c_43 : chkD (nmOf dl) exR exC (r_43.dr top) = true := by decide +kernel
theorem c_44 : chkD (nmOf dl) exR exC (r_44.dr top) = true := by decide +kernel
theorem c_45 : chkD (nmOf dl) exR exC (r_45.dr top) = true := by decide +kernel
theorem c_46 : chkD (nmOf dl) exR exC (r_46.dr top) = true := by decide +kernel
theorem c_47 : chkD (nmOf dl) exR exC (r_47.dr top) = true := by decide +kernel
theorem c_48 : chkD (nmOf dl) exR exC (r_48.dr top) = true := by decide +kernel
theorem c_49 : chkD (nmOf dl) exR exC (r_49.dr top) = true := by decide +kernel
theorem ck0 : (dl0.all fun r => chkD (nmOf dl) exR exC (r.dr top)) = true := by
  unfold dl0
  simp only [List.all_cons, List.all_nil, c_0, c_1, c_2, c_3, c_4, c_5, c_6, c_7, c_8, c_9, c_10, c_11, c_12, c_13, c_14, c_15, c_16, c_17, c_18, c_19, Bool.and_true]
theorem ck1 : (dl1.all fun r => chkD (nmOf dl) exR exC (r.dr top)) = true := by
  unfold dl1
  simp only [List.all_cons, List.all_nil, c_20, c_21, c_22, c_23, c_24, c_25, c_26, c_27, c_28, c_29, c_30, c_31, c_32, c_33, c_34, c_35, c_36, c_37, c_38, c_39, Bool.and_true]
theorem ck2 : (dl2.all fun r => chkD (nmOf dl) exR exC (r.dr top)) = true := by
  unfold dl2
  simp only [List.all_cons, List.all_nil, c_40, c_41, c_42, c_43, c_44, c_45, c_46, c_47, c_48, c_49, Bool.and_true]
theorem ck : (dl.all fun r => chkD (nmOf dl) exR exC (r.dr top)) = true := by
  show ((dl0 ++ dl1 ++ dl2).all fun r => chkD (nmOf dl) exR exC (r.dr top)) = true
  rw [List.all_append, List.all_append, ck0, ck1, ck2]
  rfl
def lo0 : List Str := ["divisor", "fraction", "plus", "minus", "product", "step_of", "dotted", "steps_of", "ring_of", "outer_ring", "inner_edges", "wings", "lengthening", "is_slack", "_law_rim_of", "_law_inner", "_law_draw", "_law_common", "_law_low", "_law_figures"]
def lo1 : List Str := ["_law_times", "_law_often", "_law_less", "_law_step", "_law_sum", "_law_dot", "_law_stretch", "_law_only", "_law_draws", "_law_put", "_law_far", "_law_rim", "_law_inside", "_law_poked", "_law_cut", "_law_sides", "_law_joined", "_law_cross", "_law_hand", "_law_bayless"]
def lo2 : List Str := ["_law_merged", "_law_built", "_law_renumbered", "_law_from_least", "_law_due", "_law_drawing", "_law_tried", "_law_motion", "_law_edges_right", "RoofError", "NoNumber", "NoDrawing", "NoEdge", "NoCorner", "Unlike", "NoBalance", "NoRoof", "NoTurned", "NoSites", "NoPulls"]
def lo3 : List Str := ["TooMany", "NoText", "NoName", "NoRow"]
def loose : List Str := lo0 ++ lo1 ++ lo2 ++ lo3
abbrev R : PySem.W.OpenRow := PySem.W.OpenLaw.row PySem.Challenge.rw_roofweb_k71_motions
abbrev fnD : List He.DefD := dl.map (LRow.dd top)
abbrev hk : PySem.W.Hook := hookV 4 (mine dl exR exC) fnD
def ob (s : PySem.W.SharedT) : He.AlD := obsVG 4 (mine dl exR exC) fnD (HandSHeadRun.getT s)
theorem ob_eq (s : PySem.W.SharedT) : ob s = hk.obs s.abs := obsVG_eq (HandSHeadRun.getT_eq s)
set_option maxHeartbeats 0 in
theorem runs (w : World) : HandSHeadRun.RunEq R (PySem.W.view R.prog [70]) hk ob 20000 loose w := by
  intro os
  kernel_rfl
theorem law_end (hrun : ∀ ns : List Int, ns.length ≤ 63 → run (tabOf dl) 20 78 [.val (.sc ns)] = .ret false (.bl true) []) : PySem.Challenge.rw_roofweb_k71_motions.Holds := by
  w_on; o_law
  refine HandSHeadRun.head_any (r := PySem.W.OpenLaw.row PySem.Challenge.rw_roofweb_k71_motions) (q := PySem.W.view (PySem.W.OpenLaw.row PySem.Challenge.rw_roofweb_k71_motions).prog [70]) (H := hk) (ob := ob) (M := 20000) (loose := loose) (d := HandSHeadRun.topDef (PySem.W.OpenLaw.row PySem.Challenge.rw_roofweb_k71_motions).prog 70) (kwd := []) ob_eq
    (by kernel_rfl) (fun s => by kernel_rfl) runs (by kernel_rfl) (by kernel_rfl) (by kernel_rfl) (by rfl) (by first | assumption | decide +kernel) (by decide +kernel) ⟨rfl, rfl, rfl, rfl, rfl, by decide +kernel⟩ ?hw ?hc
  case hw => w_witness2
  case hc =>
    refine L2.walk_ofE (l := PySem.Challenge.rw_roofweb_k71_motions) (n := 63) (k := 20) (x := "script") (CX := L2.CX0) rfl (by decide) (by kernel_rfl) ⟨rfl, by decide, by decide⟩ ?F (fun _ _ _ _ z => z)
    intro w mg fa h Y G hmg0
    have hmg : mg ("law" : PySem.Str) = some (.ref fa) := by
      have e : (HandSHeadRun.topDef (PySem.W.OpenLaw.row PySem.Challenge.rw_roofweb_k71_motions).prog 70).name = ("law" : PySem.Str) := by kernel_rfl
      rw [← e]
      exact hmg0
    exact vm_end (P := (PySem.Challenge.rw_roofweb_k71_motions).prog) (li := 78) (k := 19) (n := 63) (rl := r_49) (x := "script") ck ab rfl rfl hrun Y G hmg
end L71

theorem PySem.Challenge.cw_roofweb_k71_motions_holds : PySem.Challenge.rw_roofweb_k71_motions.Holds := by
  exact L71.law_end fun ns _ => Vm.r_k71 ns
