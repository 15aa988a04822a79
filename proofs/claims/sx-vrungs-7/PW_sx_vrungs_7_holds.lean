import PyProof.Rows.All
import Wide.All
import OpenK.AllK
import Wide.FinOn
import PySem.Challenge.RW_sx_vrungs_7
set_option Elab.async false
set_option linter.all false
section
namespace Mine

inductive B where
  | add | sub | mul | div | mod | lt | le | eq | ne | gt | ge
  deriving DecidableEq
inductive Op where
  | push | neg | not | nop | jump | jz | load | call
  | bin (b : B)
  deriving DecidableEq
abbrev I := Op × Int

noncomputable def b01 (c : Bool) : Int := if c then 1 else 0
noncomputable def B.val : B → Int → Int → Int
  | .add, a, b => a + b
  | .sub, a, b => a - b
  | .mul, a, b => a * b
  | .div, a, b => a.fdiv b
  | .mod, a, b => a.fmod b
  | .lt, a, b => b01 (decide (a < b))
  | .le, a, b => b01 (decide (a ≤ b))
  | .eq, a, b => b01 (decide (a = b))
  | .ne, a, b => b01 (decide (a ≠ b))
  | .gt, a, b => b01 (decide (a > b))
  | .ge, a, b => b01 (decide (a ≥ b))
noncomputable def B.dm : B → Bool
  | .div | .mod => true
  | _ => false
noncomputable def noVal (o : B) (b : Int) : Bool := o.dm && decide (b = 0)
noncomputable def Op.isJ : Op → Bool
  | .jump | .jz => true
  | _ => false

noncomputable def una (a : Int) : Op → Option Int
  | .neg => some (-a)
  | .not => some (b01 (decide (a = 0)))
  | _ => none
/-- a push and an operator behind it, no jump onto either -/
noncomputable def bin2 (t : Nat → Bool) (i : Nat) (x y : I) : List I → Option (Int × List I)
  | (.bin o, _) :: r' => if y.1 = .push ∧ t (i + 2) = false ∧ noVal o y.2 = false then some (o.val x.2 y.2, r') else none
  | _ => none
theorem bin2_some {t : Nat → Bool} {i : Nat} {x y : I} {r : List I} {q : Int × List I} (h : bin2 t i x y r = some q) :
    ∃ o c, r = (.bin o, c) :: q.2 ∧ y.1 = .push ∧ t (i + 2) = false ∧ noVal o y.2 = false ∧ q.1 = o.val x.2 y.2 := by
  unfold bin2 at h
  split at h
  · split at h
    · rename_i hc; cases h; exact ⟨_, _, rfl, hc.1, hc.2.1, hc.2.2, rfl⟩
    · cases h
  · cases h
/-- what one turn of the loop does at its place -/
noncomputable def stp (t : Nat → Bool) (i : Nat) (x : I) : List I → I × List I
  | [] => (x, [])
  | y :: r => if x.1 = .push ∧ t (i + 1) = false then
      match una x.2 y.1 with
      | some z => ((.nop, 0), (.push, z) :: r)
      | none => match bin2 t i x y r with
        | some q => ((.nop, 0), (.nop, 0) :: (.push, q.1) :: q.2)
        | none => (x, y :: r)
    else (x, y :: r)
theorem stp_len (t : Nat → Bool) (i : Nat) (x : I) (r : List I) : (stp t i x r).2.length = r.length := by
  cases r with
  | nil => rfl
  | cons y r =>
    rw [stp]
    split
    · split
      · rfl
      · split
        · rename_i q hq
          obtain ⟨o, c, e, _⟩ := bin2_some hq
          subst e; rfl
        · rfl
    · rfl
noncomputable def Fn (t : Nat → Bool) : Nat → Nat → List I → List I
  | 0, _, l => l
  | _ + 1, _, [] => []
  | n + 1, i, x :: r => (stp t i x r).1 :: Fn t n (i + 1) (stp t i x r).2
/-- one folding pass, from place i on -/
noncomputable def F (t : Nat → Bool) (i : Nat) (l : List I) : List I := Fn t l.length i l
theorem F_nil (t : Nat → Bool) (i : Nat) : F t i [] = [] := rfl
theorem F_stp (t : Nat → Bool) (i : Nat) (x : I) (r : List I) : F t i (x :: r) = (stp t i x r).1 :: F t (i + 1) (stp t i x r).2 := by
  unfold F
  rw [stp_len]; rfl
/-- nothing to fold at this place -/
noncomputable def NoSite (t : Nat → Bool) (i : Nat) (x : I) (r : List I) : Prop :=
  ∀ y r', r = y :: r' → x.1 = .push → t (i + 1) = false → una x.2 y.1 = none ∧ bin2 t i x y r' = none
inductive FR (t : Nat → Bool) : Nat → List I → List I → Prop where
  | nil (i : Nat) : FR t i [] []
  | keep {i : Nat} {x : I} {r r' : List I} : NoSite t i x r → FR t (i + 1) r r' → FR t i (x :: r) (x :: r')
  | one {i : Nat} {a z : Int} {y : I} {r r' : List I} : t (i + 1) = false → una a y.1 = some z → FR t (i + 1) ((.push, z) :: r) r' → FR t i ((.push, a) :: y :: r) ((.nop, 0) :: r')
  | two {i : Nat} {a b c : Int} {o : B} {r r' : List I} : t (i + 1) = false → t (i + 2) = false → noVal o b = false → FR t (i + 2) ((.push, o.val a b) :: r) r' →
      FR t i ((.push, a) :: (.push, b) :: (.bin o, c) :: r) ((.nop, 0) :: (.nop, 0) :: r')
theorem F_rel (t : Nat → Bool) : ∀ (n i : Nat) (l : List I), l.length ≤ n → FR t i l (F t i l) := by
  intro n
  induction n with
  | zero => intro i l h; cases l with
    | nil => exact .nil i
    | cons x r => simp at h
  | succ n ih =>
    intro i l h
    cases l with
    | nil => exact .nil i
    | cons x r =>
      simp only [List.length_cons] at h
      rw [F_stp]
      cases r with
      | nil => exact .keep (fun y r' e => by cases e) (.nil _)
      | cons y r =>
        simp only [List.length_cons] at h
        by_cases hc : x.1 = .push ∧ t (i + 1) = false
        · obtain ⟨xo, a⟩ := x
          obtain ⟨h1, h2⟩ := hc
          simp only at h1; subst h1
          cases hu : una a y.1 with
          | some z =>
            have e : stp t i (.push, a) (y :: r) = ((.nop, 0), (.push, z) :: r) := by simp only [stp, h2, hu, and_self, if_true]
            rw [e]
            exact .one h2 hu (ih _ _ (by simp only [List.length_cons]; omega))
          | none =>
            cases hq : bin2 t i (.push, a) y r with
            | some q =>
              obtain ⟨o, c, e, h3, h4, h5, h6⟩ := bin2_some hq
              have e' : stp t i (.push, a) (y :: r) = ((.nop, 0), (.nop, 0) :: (.push, q.1) :: q.2) := by simp only [stp, h2, hu, hq, and_self, if_true]
              rw [e', F_stp]
              obtain ⟨yo, b⟩ := y
              simp only at h3; subst h3 e
              simp only [List.length_cons] at h
              have e2 : stp t (i + 1) (.nop, 0) ((.push, q.1) :: q.2) = ((.nop, 0), (.push, q.1) :: q.2) := by simp [stp]
              rw [e2, h6]
              exact .two h2 h4 h5 (ih _ _ (by simp only [List.length_cons]; omega))
            | none =>
              have e' : stp t i (.push, a) (y :: r) = ((.push, a), y :: r) := by simp only [stp, h2, hu, hq, and_self, if_true]
              rw [e']
              refine .keep (fun y' r' e _ _ => ?_) (ih _ _ (by simp only [List.length_cons]; omega))
              cases e; exact ⟨hu, hq⟩
        · have e : stp t i x (y :: r) = (x, y :: r) := by simp only [stp, if_neg hc]
          rw [e]
          exact .keep (fun y' r' e h1 h2 => by cases e; exact absurd ⟨h1, h2⟩ hc) (ih _ _ (by simp only [List.length_cons]; omega))
theorem F_is (t : Nat → Bool) (i : Nat) (l : List I) : FR t i l (F t i l) := F_rel t _ i l (Nat.le_refl _)

noncomputable def put (hi : List I) (x : I) : List I :=
  match hi with
  | (.push, a) :: h => (match una a x.1 with
    | some z => (.push, z) :: h
    | none => (match x.1, h with
      | .bin o, (.push, a') :: h' => if noVal o a then x :: (.push, a) :: h else (.push, o.val a' a) :: h'
      | _, _ => x :: (.push, a) :: h))
  | h => x :: h
theorem put_push (hi : List I) (a : Int) : put hi (.push, a) = (.push, a) :: hi := by
  unfold put; split <;> simp [una]
theorem put_una {a z : Int} {y : I} (h : List I) (e : una a y.1 = some z) : put ((.push, a) :: h) y = (.push, z) :: h := by
  simp [put, e]
theorem put_two {a b c : Int} {o : B} (h : List I) (e : noVal o b = false) : put ((.push, b) :: (.push, a) :: h) (.bin o, c) = (.push, o.val a b) :: h := by
  simp [put, una, e]

noncomputable def fence (t : Bool) (p : List I × List I) : List I × List I := if t then (p.2 ++ p.1, []) else p
noncomputable def stepG (t : Bool) (x : I) (p : List I × List I) : List I × List I :=
  if x.1 = .nop then fence t p else ((fence t p).1, put (fence t p).2 x)
noncomputable def len2 (p : List I × List I) : Nat := p.2.length + p.1.length
theorem len2_fence (t : Bool) (p : List I × List I) : len2 (fence t p) = len2 p := by
  unfold fence len2; split <;> simp

/-- the one-pass reducer: what is left (reversed), and the place that each place moves to -/
noncomputable def run (t : Nat → Bool) : Nat → List I → List I × List I → List I × List Nat
  | _, [], p => (p.2 ++ p.1, [len2 p])
  | i, x :: r, p => ((run t (i + 1) r (stepG (t i) x p)).1, len2 p :: (run t (i + 1) r (stepG (t i) x p)).2)

theorem run_len (t : Nat → Bool) : ∀ (l : List I) (i : Nat) (p : List I × List I), (run t i l p).2.length = l.length + 1
  | [], _, _ => rfl
  | x :: r, i, p => by simp [run, run_len t r]

/-- two lists of places agree wherever a jump may land -/
noncomputable def Agree (t : Nat → Bool) (i : Nat) (a b : List Nat) : Prop := ∀ j, t (i + j) = true → a[j]? = b[j]?
theorem Agree.rf (t : Nat → Bool) (i : Nat) (a : List Nat) : Agree t i a a := fun _ _ => rfl
theorem Agree.cons {t : Nat → Bool} {i : Nat} {a b : List Nat} {x y : Nat} (h : t i = true → x = y) (h' : Agree t (i + 1) a b) : Agree t i (x :: a) (y :: b) := by
  intro j hj
  cases j with
  | zero => simp only [List.getElem?_cons_zero]; rw [h (by simpa using hj)]
  | succ j => simp only [List.getElem?_cons_succ]; exact h' j (by rw [show i + 1 + j = i + (j + 1) by omega]; exact hj)
theorem Agree.no {t : Nat → Bool} {i : Nat} {a b : List Nat} {x y : Nat} (h : t i = false) (h' : Agree t (i + 1) a b) : Agree t i (x :: a) (y :: b) :=
  Agree.cons (fun e => by rw [h] at e; cases e) h'
theorem Agree.tail {t : Nat → Bool} {i : Nat} {a b : List Nat} {x y : Nat} (h : Agree t i (x :: a) (y :: b)) : Agree t (i + 1) a b := by
  intro j hj
  simpa using h (j + 1) (by rw [show i + (j + 1) = i + 1 + j by omega]; exact hj)

theorem run_fold {t : Nat → Bool} {i : Nat} {l l' : List I} (h : FR t i l l') : ∀ p, (run t i l' p).1 = (run t i l p).1 ∧ Agree t i (run t i l' p).2 (run t i l p).2 := by
  induction h with
  | nil i => intro p; exact ⟨rfl, Agree.rf _ _ _⟩
  | keep _ _ ih =>
    rename_i i x r r' _ _
    intro p
    have q := ih (stepG (t i) x p)
    exact ⟨q.1, Agree.cons (fun _ => rfl) q.2⟩
  | one h1 h2 _ ih =>
    rename_i i a z y r r' _
    intro p
    have hy : y.1 ≠ .nop := fun e => by rw [e] at h2; cases h2
    have e1 : stepG (t i) (.nop, 0) p = fence (t i) p := by simp [stepG]
    have e2 : stepG (t (i + 1)) y (stepG (t i) (.push, a) p) = stepG (t (i + 1)) (.push, z) (fence (t i) p) := by
      simp [stepG, h1, hy, fence, put_push, put_una _ h2]
    have q := ih (fence (t i) p)
    simp only [run] at q ⊢
    rw [e1, e2]
    exact ⟨q.1, Agree.cons (fun _ => rfl) (by
      have := q.2
      intro j hj
      cases j with
      | zero => rw [Nat.add_zero, h1] at hj; cases hj
      | succ j => simpa using this (j + 1) hj)⟩
  | two h1 h2 h3 _ ih =>
    rename_i i a b c o r r' _
    intro p
    have e1 : stepG (t (i + 1)) (.nop, 0) (stepG (t i) (.nop, 0) p) = fence (t i) p := by simp [stepG, h1, fence]
    have e2 : stepG (t (i + 2)) (.bin o, c) (stepG (t (i + 1)) (.push, b) (stepG (t i) (.push, a) p)) = stepG (t (i + 2)) (.push, o.val a b) (fence (t i) p) := by
      simp [stepG, h1, h2, fence, put_push, put_two _ h3]
    have q := ih (fence (t i) p)
    simp only [run] at q ⊢
    rw [e1, show i + 1 + 1 = i + 2 by omega, e2]
    refine ⟨q.1, Agree.cons (fun _ => rfl) (Agree.no h1 ?_)⟩
    intro j hj
    cases j with
    | zero => rw [Nat.add_zero, show i + 1 + 1 = i + 2 by omega, h2] at hj; cases hj
    | succ j => simpa using q.2 (j + 1) (by rw [show i + 1 + 1 = i + 2 by omega] at hj; exact hj)

/-! ## stripping -/
noncomputable def mvs : Nat → List I → List Nat
  | k, [] => [k]
  | k, x :: r => k :: mvs (if x.1 = .nop then k else k + 1) r
noncomputable def keep (l : List I) : List I := l.filter fun x => decide (x.1 ≠ .nop)
theorem keep_nop {x : I} {r : List I} (h : x.1 = .nop) : keep (x :: r) = keep r := by simp [keep, h]
theorem keep_cons {x : I} {r : List I} (h : x.1 ≠ .nop) : keep (x :: r) = x :: keep r := by simp [keep, h]
theorem mvs_len : ∀ (l : List I) (k : Nat), (mvs k l).length = l.length + 1
  | [], _ => rfl
  | x :: r, k => by simp [mvs, mvs_len r]
theorem mvs_ge : ∀ (l : List I) (k m v : Nat), (mvs k l)[m]? = some v → k ≤ v ∧ v ≤ k + (keep l).length
  | [], k, m, v, h => by
    cases m with
    | zero => simp [mvs] at h; omega
    | succ m => simp [mvs] at h
  | x :: r, k, m, v, h => by
    cases m with
    | zero => simp [mvs] at h; omega
    | succ m =>
      simp only [mvs, List.getElem?_cons_succ] at h
      have q := mvs_ge r _ m v h
      by_cases hx : x.1 = .nop
      · simp only [hx, if_true] at q; rw [keep_nop hx]; exact q
      · simp only [hx, if_false] at q; rw [keep_cons hx, List.length_cons]; omega

noncomputable def mapP (ρ : I → I) (p : List I × List I) : List I × List I := (p.1.map ρ, p.2.map ρ)
structure Rho (ρ : I → I) : Prop where
  op : ∀ x, (ρ x).1 = x.1
  id : ∀ x, x.1.isJ = false → ρ x = x
theorem put_np {op : Op} {a : Int} {h : List I} {x : I} (ho : op ≠ .push) : put ((op, a) :: h) x = x :: (op, a) :: h := by
  unfold put
  split
  · rename_i e; cases e; exact absurd rfl ho
  · rfl
theorem put_no {a : Int} {h : List I} {x : I} (hu : una a x.1 = none) (hB : ∀ o a' h', x.1 = .bin o → h = (.push, a') :: h' → noVal o a = true) : put ((.push, a) :: h) x = x :: (.push, a) :: h := by
  simp only [put, hu]
  split
  · rename_i o a' h' hx
    rw [if_pos (hB o a' h' hx rfl)]
  · rfl
theorem put_map {ρ : I → I} (hρ : Rho ρ) (h : List I) (x : I) : put (h.map ρ) (ρ x) = (put h x).map ρ := by
  have hp : ∀ a, ρ (.push, a) = (.push, a) := fun a => hρ.id _ rfl
  cases h with
  | nil => rfl
  | cons y h' =>
    obtain ⟨op, a⟩ := y
    rw [List.map_cons]
    by_cases ho : op = .push
    · subst ho
      rw [hp]
      cases hu : una a x.1 with
      | some z =>
        rw [put_una h' hu, put_una (h'.map ρ) (by rw [hρ.op]; exact hu), List.map_cons, hp]
      | none =>
        by_cases hB : ∃ o a' h'', x.1 = .bin o ∧ h' = (.push, a') :: h'' ∧ noVal o a = false
        · obtain ⟨o, a', h'', hx, rfl, hv⟩ := hB
          have hxx : x = (.bin o, x.2) := Prod.ext hx rfl
          have hr : ρ x = x := hρ.id x (by rw [hx]; rfl)
          rw [hr, hxx, put_two h'' hv, List.map_cons, hp, put_two (h''.map ρ) hv, List.map_cons, hp]
        · rw [put_no hu (fun o a' h'' e1 e2 => by
            cases hv : noVal o a with
            | true => rfl
            | false => exact absurd ⟨o, a', h'', e1, e2, hv⟩ hB), put_no (by rw [hρ.op]; exact hu) (fun o a' h'' e1 e2 => by
            cases hv : noVal o a with
            | true => rfl
            | false =>
              refine absurd ?_ hB
              rw [hρ.op] at e1
              cases h' with
              | nil => cases e2
              | cons z h3 =>
                rw [List.map_cons] at e2
                injection e2 with e3 e4
                have hz : z.1 = .push := by rw [← hρ.op z, e3]
                exact ⟨o, z.2, h3, e1, by rw [← hz], hv⟩)]
          rw [List.map_cons, List.map_cons, hp]
    · have hop : (ρ (op, a)).1 ≠ .push := by rw [hρ.op]; exact ho
      rw [put_np ho, List.map_cons, List.map_cons]
      exact put_np (a := (ρ (op, a)).2) hop
theorem fence_map (ρ : I → I) (t : Bool) (p : List I × List I) : fence t (mapP ρ p) = mapP ρ (fence t p) := by
  unfold fence mapP; split <;> simp
theorem len2_map (ρ : I → I) (p : List I × List I) : len2 (mapP ρ p) = len2 p := by simp [len2, mapP]
theorem fence_fence (a b : Bool) (p : List I × List I) : fence a (fence b p) = fence (b || a) p := by
  cases a <;> cases b <;> simp [fence]
theorem fence_all (t : Bool) (p : List I × List I) : (fence t p).2 ++ (fence t p).1 = p.2 ++ p.1 := by
  cases t <;> simp [fence]

noncomputable def Sync (t t' : Nat → Bool) : Bool → Nat → Nat → List I → Prop
  | _, _, _, [] => True
  | pend, j, k, x :: r => if x.1 = .nop then Sync t t' (pend || t j) (j + 1) k r else t' k = (pend || t j) ∧ Sync t t' false (j + 1) (k + 1) r
theorem sync_of (t t' : Nat → Bool) : ∀ (l : List I) (j k : Nat) (pend : Bool),
    (∀ k', k ≤ k' → k' < k + (keep l).length → (t' k' = true ↔ (k' = k ∧ pend = true) ∨ ∃ m, t (j + m) = true ∧ (mvs k l)[m]? = some k')) → Sync t t' pend j k l
  | [], _, _, _, _ => trivial
  | x :: r, j, k, pend, h => by
    unfold Sync
    by_cases hx : x.1 = .nop
    · rw [if_pos hx]
      refine sync_of t t' r (j + 1) k _ fun k' h1 h2 => ?_
      rw [h k' h1 (by rw [keep_nop hx]; exact h2)]
      simp only [mvs, hx, if_true]
      constructor
      · rintro (⟨a, b⟩ | ⟨m, hm, e⟩)
        · exact .inl ⟨a, by simp [b]⟩
        · cases m with
          | zero => simp at e; exact .inl ⟨e.symm, by simp at hm; simp [hm]⟩
          | succ m => exact .inr ⟨m, by rw [show j + 1 + m = j + (m + 1) by omega]; exact hm, by simpa using e⟩
      · rintro (⟨a, b⟩ | ⟨m, hm, e⟩)
        · simp only [Bool.or_eq_true] at b
          rcases b with b | b
          · exact .inl ⟨a, b⟩
          · exact .inr ⟨0, by simpa using b, by simp [a]⟩
        · exact .inr ⟨m + 1, by rw [show j + (m + 1) = j + 1 + m by omega]; exact hm, by simpa using e⟩
    · rw [if_neg hx]
      constructor
      · have q := h k (Nat.le_refl _) (by rw [keep_cons hx, List.length_cons]; omega)
        rw [Bool.eq_iff_iff, q]
        simp only [mvs, hx, if_false, Bool.or_eq_true]
        constructor
        · rintro (⟨_, b⟩ | ⟨m, hm, e⟩)
          · exact .inl b
          · cases m with
            | zero => exact .inr (by simpa using hm)
            | succ m =>
              have := mvs_ge r (k + 1) m k (by simpa using e)
              omega
        · rintro (b | b)
          · exact .inl (by simp [b])
          · exact .inr ⟨0, by simpa using b, by simp⟩
      · refine sync_of t t' r (j + 1) (k + 1) _ fun k' h1 h2 => ?_
        rw [h k' (by omega) (by rw [keep_cons hx, List.length_cons]; omega)]
        simp only [mvs, hx, if_false]
        constructor
        · rintro (⟨a, b⟩ | ⟨m, hm, e⟩)
          · omega
          · cases m with
            | zero => simp at e; omega
            | succ m => exact .inr ⟨m, by rw [show j + 1 + m = j + (m + 1) by omega]; exact hm, by simpa using e⟩
        · rintro (⟨a, b⟩ | ⟨m, hm, e⟩)
          · cases b
          · exact .inr ⟨m + 1, by rw [show j + (m + 1) = j + 1 + m by omega]; exact hm, by simpa using e⟩

theorem run_head (t : Nat → Bool) (l : List I) (i : Nat) (p : List I × List I) : (run t i l p).2[0]? = some (len2 p) := by
  cases l <;> simp [run]
theorem run_strip {ρ : I → I} (hρ : Rho ρ) (t t' : Nat → Bool) : ∀ (l : List I) (j k : Nat) (pend : Bool) (p : List I × List I), Sync t t' pend j k l →
    (run t' k ((keep l).map ρ) (mapP ρ p)).1 = (run t j l (fence pend p)).1.map ρ ∧
    ∀ m v : Nat, (mvs k l)[m]? = some v → (run t' k ((keep l).map ρ) (mapP ρ p)).2[v - k]? = (run t j l (fence pend p)).2[m]?
  | [], j, k, pend, p, _ => by
    constructor
    · simp [run, keep, mapP, ← List.map_append, fence_all]
    · intro m v h
      cases m with
      | zero => simp [mvs] at h; subst h; simp [run, keep, len2_map, len2_fence]
      | succ m => simp [mvs] at h
  | x :: r, j, k, pend, p, hs => by
    unfold Sync at hs
    by_cases hx : x.1 = .nop
    · rw [if_pos hx] at hs
      have q := run_strip hρ t t' r (j + 1) k _ p hs
      have e : stepG (t j) x (fence pend p) = fence (pend || t j) p := by simp [stepG, hx, fence_fence]
      rw [keep_nop hx]
      simp only [run, e]
      refine ⟨q.1, fun m v h => ?_⟩
      simp only [mvs, hx, if_true] at h
      cases m with
      | zero => simp at h; subst h; simp [run_head, len2_map, len2_fence]
      | succ m => simpa using q.2 m v (by simpa using h)
    · rw [if_neg hx] at hs
      have q := run_strip hρ t t' r (j + 1) (k + 1) false (stepG (t j) x (fence pend p)) hs.2
      have e : stepG (t' k) (ρ x) (mapP ρ p) = mapP ρ (stepG (t j) x (fence pend p)) := by
        unfold stepG
        rw [hρ.op, if_neg hx, if_neg hx, fence_map, hs.1, fence_fence]
        simp only [mapP, put_map hρ]
      have e0 : fence false (stepG (t j) x (fence pend p)) = stepG (t j) x (fence pend p) := rfl
      rw [e0] at q
      rw [keep_cons hx]
      simp only [List.map_cons, run, e]
      refine ⟨q.1, fun m v h => ?_⟩
      simp only [mvs, hx, if_false] at h
      cases m with
      | zero => simp at h; subst h; simp [len2_map, len2_fence]
      | succ m =>
        have h' : (mvs (k + 1) r)[m]? = some v := by simpa using h
        have g := (mvs_ge r (k + 1) m v h').1
        have := q.2 m v h'
        rw [show v - k = (v - (k + 1)) + 1 by omega]
        simpa using this

/-! ## the whole -/
section
variable {α : Type}
/-- where a jump or an entry may land -/
noncomputable def tg (code : List I) (tb : List (α × Int)) : List Int := (code.filter fun x => x.1.isJ).map (·.2) ++ tb.map (·.2)
noncomputable def tgs (l : List Int) (j : Nat) : Bool := decide ((j : Int) ∈ l)
noncomputable def at' (mv : List Nat) (v : Int) : Int := ((mv[v.toNat]?).getD 0 : Nat)
noncomputable def rel (n : Nat) (mv : List Nat) (x : I) : I := if x.1.isJ = true ∧ 0 ≤ x.2 ∧ x.2 ≤ (n : Int) then (x.1, at' mv x.2) else x
noncomputable def relT (mv : List Nat) (tb : List (α × Int)) : List (α × Int) := tb.map fun r => (r.1, at' mv r.2)
noncomputable def TbOk (n : Nat) (tb : List (α × Int)) : Prop := ∀ r ∈ tb, 0 ≤ r.2 ∧ r.2 ≤ (n : Int)
noncomputable def R (code : List I) (tb : List (α × Int)) : List I × List (α × Int) :=
  let q := run (tgs (tg code tb)) 0 code ([], [])
  (q.1.reverse.map (rel code.length q.2), relT q.2 tb)
noncomputable def fold (code : List I) (tb : List (α × Int)) : List I := F (tgs (tg code tb)) 0 code
noncomputable def strip (code : List I) (tb : List (α × Int)) : List I × List (α × Int) :=
  ((keep code).map (rel code.length (mvs 0 code)), relT (mvs 0 code) tb)
noncomputable def pass (code : List I) (tb : List (α × Int)) : List I × List (α × Int) := strip (fold code tb) tb
noncomputable def opt : Nat → List I → List (α × Int) → List I × List (α × Int)
  | 0, code, tb => (code, tb)
  | n + 1, code, tb => if (pass code tb).1 = code then (code, tb) else opt n (pass code tb).1 (pass code tb).2

theorem FR.len {t : Nat → Bool} {i : Nat} {l l' : List I} (h : FR t i l l') : l'.length = l.length := by
  induction h with
  | nil => rfl
  | keep _ _ ih => simp [ih]
  | one _ _ _ ih => simpa using ih
  | two _ _ _ _ ih => simpa using ih
theorem FR.jumps {t : Nat → Bool} {i : Nat} {l l' : List I} (h : FR t i l l') : l'.filter (fun x => x.1.isJ) = l.filter fun x => x.1.isJ := by
  induction h with
  | nil => rfl
  | keep _ _ ih => simp [List.filter_cons, ih]
  | one _ h _ ih =>
    rename_i y r r' _ _
    have : y.1.isJ = false := by cases hy : y.1 <;> simp_all [una, Op.isJ]
    have p0 : (Op.push).isJ = false := rfl
    have n0 : (Op.nop).isJ = false := rfl
    simp only [List.filter_cons, this, p0, n0] at ih ⊢
    simpa using ih
  | two _ _ _ _ ih =>
    have p0 : (Op.push).isJ = false := rfl
    have n0 : (Op.nop).isJ = false := rfl
    have b0 : ∀ o, (Op.bin o).isJ = false := fun _ => rfl
    simp only [List.filter_cons, p0, n0, b0] at ih ⊢
    simpa using ih
theorem fold_len (code : List I) (tb : List (α × Int)) : (fold code tb).length = code.length := (F_is _ _ _).len
theorem fold_tg (code : List I) (tb : List (α × Int)) : tg (fold code tb) tb = tg code tb := by
  unfold tg fold; rw [(F_is _ _ _).jumps]
theorem put_mem {hi : List I} {x y : I} (h : y ∈ put hi x) (hj : y.1.isJ = true) : y = x ∨ y ∈ hi := by
  have np : ∀ a, y ≠ (.push, a) := fun a e => by subst e; cases hj
  unfold put at h
  split at h
  · split at h
    · rcases List.mem_cons.mp h with e | h
      · exact absurd e (np _)
      · exact .inr (.tail _ h)
    · split at h
      · split at h
        · rcases List.mem_cons.mp h with e | h
          · exact .inl e
          · exact .inr h
        · rcases List.mem_cons.mp h with e | h
          · exact absurd e (np _)
          · exact .inr (.tail _ (.tail _ h))
      · rcases List.mem_cons.mp h with e | h
        · exact .inl e
        · exact .inr h
  · rcases List.mem_cons.mp h with e | h
    · exact .inl e
    · exact .inr h
theorem run_mem (t : Nat → Bool) : ∀ (l : List I) (i : Nat) (p : List I × List I) (y : I), y ∈ (run t i l p).1 → y.1.isJ = true → y ∈ l ∨ y ∈ p.2 ++ p.1
  | [], _, _, y, h, _ => .inr h
  | x :: r, i, p, y, h, hj => by
    rcases run_mem t r (i + 1) _ y h hj with h | h
    · exact .inl (.tail _ h)
    · unfold stepG at h
      split at h
      · rw [fence_all] at h; exact .inr h
      · simp only at h
        rcases List.mem_append.mp h with h | h
        · rcases put_mem h hj with e | h
          · exact .inl (e ▸ .head _)
          · exact .inr (by rw [← fence_all (t i) p]; exact List.mem_append_left _ h)
        · exact .inr (by rw [← fence_all (t i) p]; exact List.mem_append_right _ h)
theorem toNat_le {v : Int} (h0 : 0 ≤ v) : ((v.toNat : Nat) : Int) = v := Int.toNat_of_nonneg h0
theorem mem_tg_code {code : List I} {tb : List (α × Int)} {x : I} (h : x ∈ code) (hj : x.1.isJ = true) : x.2 ∈ tg code tb :=
  List.mem_append_left _ (List.mem_map.mpr ⟨x, List.mem_filter.mpr ⟨h, hj⟩, rfl⟩)
theorem mem_tg_tb {code : List I} {tb : List (α × Int)} {r : α × Int} (h : r ∈ tb) : r.2 ∈ tg code tb :=
  List.mem_append_right _ (List.mem_map.mpr ⟨r, h, rfl⟩)
theorem at_agree {l : List Int} {a b : List Nat} (h : Agree (tgs l) 0 a b) {v : Int} (hv : v ∈ l) (h0 : 0 ≤ v) : at' a v = at' b v := by
  unfold at'
  rw [h v.toNat (by simp [tgs, Int.max_eq_left h0, hv])]
theorem R_fold (code : List I) (tb : List (α × Int)) (ok : TbOk code.length tb) : R (fold code tb) tb = R code tb := by
  have q := run_fold (F_is (tgs (tg code tb)) 0 code) ([], [])
  rw [show F (tgs (tg code tb)) 0 code = fold code tb from rfl] at q
  unfold R
  rw [fold_tg, fold_len]
  simp only
  rw [show (run (tgs (tg code tb)) 0 (fold code tb) ([], [])).1 = _ from q.1]
  refine Prod.ext ?_ ?_
  · refine List.map_congr_left fun x hx => ?_
    rw [List.mem_reverse] at hx
    unfold rel
    split
    · rename_i h
      have hm : x ∈ code := (run_mem _ _ _ _ _ hx h.1).resolve_right (by simp)
      rw [at_agree q.2 (mem_tg_code hm h.1) h.2.1]
    · rfl
  · refine List.map_congr_left fun r hr => ?_
    rw [at_agree q.2 (mem_tg_tb hr) (ok r hr).1]

theorem keep_le (l : List I) : (keep l).length ≤ l.length := List.length_filter_le ..
theorem rho_rel (n : Nat) (mv : List Nat) : Rho (rel n mv) where
  op x := by unfold rel; split <;> rfl
  id x h := by unfold rel; rw [if_neg (by rw [h]; simp)]
theorem filter_rel (n : Nat) (mv : List Nat) (l : List I) : (l.map (rel n mv)).filter (fun x => x.1.isJ) = (l.filter fun x => x.1.isJ).map (rel n mv) := by
  rw [List.filter_map]
  congr 1
  refine List.filter_congr fun x _ => ?_
  simp [(rho_rel n mv).op]
theorem filter_keep (l : List I) : (keep l).filter (fun x => x.1.isJ) = l.filter fun x => x.1.isJ := by
  unfold keep
  rw [List.filter_filter]
  refine List.filter_congr fun x _ => ?_
  cases hx : x.1 <;> simp [Op.isJ]
noncomputable def mvI (n : Nat) (mv : List Nat) (v : Int) : Int := if 0 ≤ v ∧ v ≤ (n : Int) then at' mv v else v
theorem strip_tg (code : List I) (tb : List (α × Int)) (ok : TbOk code.length tb) : tg (strip code tb).1 (strip code tb).2 = (tg code tb).map (mvI code.length (mvs 0 code)) := by
  unfold tg strip relT
  simp only
  rw [filter_rel, filter_keep, List.map_append]
  congr 1
  · simp only [List.map_map]
    refine List.map_congr_left fun x hx => ?_
    have hj : x.1.isJ = true := (List.mem_filter.mp hx).2
    simp only [Function.comp, rel, mvI, hj, true_and]
    split <;> rfl
  · simp only [List.map_map]
    refine List.map_congr_left fun r hr => ?_
    have h := ok r hr
    simp [mvI, h.1, h.2]
theorem mvs_at {code : List I} {m : Nat} (h : m ≤ code.length) : ∃ v, (mvs 0 code)[m]? = some v ∧ v ≤ (keep code).length := by
  have hl := mvs_len code 0
  have : m < (mvs 0 code).length := by omega
  refine ⟨_, List.getElem?_eq_getElem this, ?_⟩
  have := (mvs_ge code 0 m _ (List.getElem?_eq_getElem this)).2
  omega
theorem strip_sync (code : List I) (tb : List (α × Int)) (ok : TbOk code.length tb) :
    Sync (tgs (tg code tb)) (tgs (tg (strip code tb).1 (strip code tb).2)) false 0 0 code := by
  refine sync_of _ _ code 0 0 false fun k' _ hk => ?_
  rw [strip_tg code tb ok]
  have hkl := keep_le code
  simp only [tgs, decide_eq_true_eq, List.mem_map, Bool.false_eq_true, and_false, false_or, Nat.zero_add]
  constructor
  · rintro ⟨v, hv, e⟩
    unfold mvI at e
    split at e
    · rename_i h
      obtain ⟨u, hu, _⟩ := mvs_at (code := code) (m := v.toNat) (by omega)
      refine ⟨v.toNat, by rw [toNat_le h.1]; exact hv, ?_⟩
      unfold at' at e
      rw [hu] at e ⊢
      simp only [Option.getD_some] at e
      congr 1; omega
    · omega
  · rintro ⟨m, hm, e⟩
    refine ⟨m, hm, ?_⟩
    have hl : m < (mvs 0 code).length := (List.getElem?_eq_some_iff.mp e).1
    rw [mvs_len] at hl
    unfold mvI
    rw [if_pos (by omega)]
    simp [at', e]
theorem at_len {mv : List Nat} {v : Int} : 0 ≤ at' mv v := by unfold at'; omega
theorem at_le {code : List I} {v : Int} (h : 0 ≤ v) (h' : v ≤ (code.length : Int)) : at' (mvs 0 code) v ≤ ((keep code).length : Int) := by
  obtain ⟨u, hu, hl⟩ := mvs_at (code := code) (m := v.toNat) (by omega)
  unfold at'; rw [hu]; simp only [Option.getD_some]; omega
theorem R_strip (code : List I) (tb : List (α × Int)) (ok : TbOk code.length tb) : R (strip code tb).1 (strip code tb).2 = R code tb := by
  have q := run_strip (rho_rel code.length (mvs 0 code)) _ _ code 0 0 false ([], []) (strip_sync code tb ok)
  have hkl := keep_le code
  have e0 : fence false (([], []) : List I × List I) = ([], []) := rfl
  have e1 : mapP (rel code.length (mvs 0 code)) ([], []) = ([], []) := rfl
  rw [e0, e1] at q
  have hat : ∀ v : Int, 0 ≤ v → v ≤ (code.length : Int) → at' (run (tgs (tg (strip code tb).1 (strip code tb).2)) 0 (strip code tb).1 ([], [])).2 (at' (mvs 0 code) v) = at' (run (tgs (tg code tb)) 0 code ([], [])).2 v := by
    intro v h0 h1
    obtain ⟨u, hu, _⟩ := mvs_at (code := code) (m := v.toNat) (by omega)
    have := q.2 _ _ hu
    unfold at'
    rw [hu]
    simp only [Option.getD_some, Int.toNat_natCast]
    rw [show u - 0 = u from rfl] at this
    rw [show (strip code tb).1 = (keep code).map (rel code.length (mvs 0 code)) from rfl] at *
    rw [this]
  unfold R
  simp only
  rw [show (run (tgs (tg (strip code tb).1 (strip code tb).2)) 0 (strip code tb).1 ([], [])).1 = _ from q.1]
  refine Prod.ext ?_ ?_
  · simp only [← List.map_reverse, List.map_map]
    refine List.map_congr_left fun x _ => ?_
    have hl : (strip code tb).1.length = (keep code).length := by simp [strip]
    simp only [Function.comp, hl]
    by_cases h : x.1.isJ = true ∧ 0 ≤ x.2 ∧ x.2 ≤ (code.length : Int)
    · have h1 : rel code.length (mvs 0 code) x = (x.1, at' (mvs 0 code) x.2) := by unfold rel; rw [if_pos h]
      rw [h1]
      unfold rel
      rw [if_pos ⟨h.1, at_len, at_le h.2.1 h.2.2⟩, if_pos h]
      simp only
      rw [hat _ h.2.1 h.2.2]
    · have h1 : rel code.length (mvs 0 code) x = x := by unfold rel; rw [if_neg h]
      rw [h1]
      unfold rel
      rw [if_neg h, if_neg (by rintro ⟨a, b, c⟩; exact h ⟨a, b, by omega⟩)]
  · simp only [strip, relT, List.map_map]
    refine List.map_congr_left fun r hr => ?_
    have h := ok r hr
    simp only [Function.comp]
    exact congrArg (Prod.mk r.1) (hat _ h.1 h.2)

/-! ## a fixed point -/
noncomputable def Clean (t : Nat → Bool) : Nat → List I → Prop
  | _, [] => True
  | i, x :: r => NoSite t i x r ∧ Clean t (i + 1) r
noncomputable def NoNop (l : List I) : Prop := ∀ x ∈ l, x.1 ≠ .nop
theorem FR.clean {t : Nat → Bool} {i : Nat} {l l' : List I} (h : FR t i l l') (hn : NoNop l') : l' = l ∧ Clean t i l := by
  induction h with
  | nil => exact ⟨rfl, trivial⟩
  | keep hs _ ih =>
    have q := ih fun x hx => hn x (.tail _ hx)
    exact ⟨by rw [q.1], hs, q.2⟩
  | one _ _ _ _ => exact absurd rfl (hn _ (.head _))
  | two _ _ _ _ _ => exact absurd rfl (hn _ (.head _))
theorem clean_F {t : Nat → Bool} {i : Nat} {l l' : List I} (h : FR t i l l') (hc : Clean t i l) : l' = l := by
  induction h with
  | nil => rfl
  | keep hs _ ih => rw [ih hc.2]
  | one h1 h2 _ _ =>
    have := (hc.1 _ _ rfl rfl h1).1
    rw [h2] at this; cases this
  | two h1 h2 h3 _ _ =>
    have := (hc.1 _ _ rfl rfl h1).2
    simp [bin2, h2, h3] at this
structure CInv (t : Nat → Bool) (i : Nat) (hi l : List I) : Prop where
  a : ∀ y h, hi = y :: h → ∃ j, i = j + 1 ∧ NoSite t j y l
  b : ∀ y z h, hi = y :: z :: h → ∃ j, i = j + 2 ∧ t (j + 1) = false ∧ NoSite t j z (y :: l)
theorem put_clean {t : Nat → Bool} {i : Nat} {hi r : List I} {x : I} (h : CInv t i hi (x :: r)) (ht : t i = false) : put hi x = x :: hi := by
  unfold put
  split
  · rename_i a h'
    obtain ⟨j, rfl, ns⟩ := h.a _ _ rfl
    have q := ns _ _ rfl rfl ht
    simp only at q
    rw [q.1]
    simp only
    split
    · rename_i o a' h'' hx
      obtain ⟨j', e, ht', ns'⟩ := h.b _ _ _ rfl
      have q' := (ns' _ _ rfl rfl ht').2
      obtain ⟨xo, xa⟩ := x
      simp only at hx; subst hx
      have : j' + 2 = j + 1 := by omega
      simp only [bin2, this, ht, true_and] at q'
      split
      · rfl
      · rename_i hv
        rw [if_pos (by simpa using hv)] at q'
        cases q'
    · rfl
  · rfl
theorem run_clean (t : Nat → Bool) : ∀ (l : List I) (i : Nat) (p : List I × List I), NoNop l → Clean t i l → CInv t i p.2 l →
    (run t i l p).1 = l.reverse ++ (p.2 ++ p.1) ∧ ∀ m, m ≤ l.length → (run t i l p).2[m]? = some (len2 p + m)
  | [], i, p, _, _, _ => by
    refine ⟨by simp [run], fun m hm => ?_⟩
    simp at hm; subst hm; simp [run]
  | x :: r, i, p, hn, hc, hi => by
    have hx : x.1 ≠ .nop := hn x (.head _)
    have e : stepG (t i) x p = ((fence (t i) p).1, x :: (fence (t i) p).2) := by
      unfold stepG
      rw [if_neg hx]
      cases ht : t i with
      | true => simp [fence, put]
      | false => simp only [fence, Bool.false_eq_true, if_false]; rw [put_clean hi ht]
    have hi' : CInv t (i + 1) (x :: (fence (t i) p).2) r := by
      constructor
      · intro y h e; cases e; exact ⟨i, rfl, hc.1⟩
      · intro y z h e
        cases ht : t i with
        | true => rw [ht] at e; simp [fence] at e
        | false =>
          rw [ht] at e
          simp only [fence, Bool.false_eq_true, if_false, List.cons.injEq] at e
          obtain ⟨rfl, e⟩ := e
          obtain ⟨j, rfl, ns⟩ := hi.a _ _ e
          exact ⟨j, rfl, ht, ns⟩
    have q := run_clean t r (i + 1) ((fence (t i) p).1, x :: (fence (t i) p).2) (fun y hy => hn y (.tail _ hy)) hc.2 hi'
    simp only [run, e]
    refine ⟨by rw [q.1]; simp [fence_all], fun m hm => ?_⟩
    cases m with
    | zero => simp
    | succ m =>
      simp only [List.getElem?_cons_succ]
      rw [q.2 m (by simpa using hm)]
      have hl := len2_fence (t i) p
      simp only [len2, List.length_cons] at hl ⊢
      congr 1; omega
theorem rel_id {n : Nat} {mv : List Nat} (h : ∀ m, m ≤ n → mv[m]? = some m) (x : I) : rel n mv x = x := by
  unfold rel
  split
  · rename_i hc
    have : at' mv x.2 = x.2 := by
      unfold at'; rw [h x.2.toNat (by omega)]; simp only [Option.getD_some]; omega
    rw [this]
  · rfl
theorem relT_id {n : Nat} {mv : List Nat} (h : ∀ m, m ≤ n → mv[m]? = some m) {tb : List (α × Int)} (ok : TbOk n tb) : relT mv tb = tb := by
  unfold relT
  refine (List.map_congr_left fun r hr => ?_).trans (List.map_id tb)
  have hr := ok r hr
  have : at' mv r.2 = r.2 := by
    unfold at'; rw [h r.2.toNat (by omega)]; simp only [Option.getD_some]; omega
  rw [this]; rfl
theorem R_clean {code : List I} {tb : List (α × Int)} (ok : TbOk code.length tb) (hn : NoNop code) (hc : Clean (tgs (tg code tb)) 0 code) : R code tb = (code, tb) := by
  have q := run_clean _ code 0 ([], []) hn hc ⟨(fun _ _ e => nomatch e), (fun _ _ _ e => nomatch e)⟩
  have h : ∀ m, m ≤ code.length → (run (tgs (tg code tb)) 0 code ([], [])).2[m]? = some m := fun m hm => by
    rw [q.2 m hm]; simp [len2]
  unfold R
  simp only
  rw [relT_id h ok, q.1]
  simp only [List.append_nil, List.reverse_reverse, List.map_congr_left (fun x _ => rel_id h x), List.map_id']
theorem keep_all {l : List I} (h : NoNop l) : keep l = l := by
  unfold keep; rw [List.filter_eq_self]; intro x hx; simpa using h x hx
theorem keep_nonop (l : List I) : NoNop (keep l) := by
  intro x hx; have := (List.mem_filter.mp hx).2; simpa using this
theorem nonop_of_len {l : List I} (h : (keep l).length = l.length) : NoNop l := by
  have : keep l = l := by unfold keep at h ⊢; exact List.filter_sublist.eq_of_length h
  intro x hx; rw [← this] at hx; exact keep_nonop l x hx
theorem mvs_id : ∀ (l : List I) (k m : Nat), NoNop l → m ≤ l.length → (mvs k l)[m]? = some (k + m)
  | [], k, m, _, h => by simp at h; subst h; simp [mvs]
  | x :: r, k, m, hn, h => by
    have hx : x.1 ≠ .nop := hn x (.head _)
    cases m with
    | zero => simp [mvs]
    | succ m =>
      simp only [mvs, hx, if_false, List.getElem?_cons_succ]
      rw [mvs_id r (k + 1) m (fun y hy => hn y (.tail _ hy)) (by simpa using h)]
      congr 1; omega
theorem strip_id {code : List I} {tb : List (α × Int)} (ok : TbOk code.length tb) (hn : NoNop code) : strip code tb = (code, tb) := by
  have h : ∀ m, m ≤ code.length → (mvs 0 code)[m]? = some m := fun m hm => by rw [mvs_id code 0 m hn hm]; simp
  unfold strip
  rw [relT_id h ok, keep_all hn, List.map_congr_left (fun x _ => rel_id h x), List.map_id']
theorem strip_len (code : List I) (tb : List (α × Int)) : (strip code tb).1.length = (keep code).length := by simp [strip]
theorem strip_ok {code : List I} {tb : List (α × Int)} (ok : TbOk code.length tb) : TbOk (strip code tb).1.length (strip code tb).2 := by
  intro r hr
  rw [strip_len]
  obtain ⟨r', hr', rfl⟩ := List.mem_map.mp hr
  exact ⟨at_len, at_le (ok r' hr').1 (ok r' hr').2⟩
theorem pass_ok {code : List I} {tb : List (α × Int)} (ok : TbOk code.length tb) : TbOk (pass code tb).1.length (pass code tb).2 :=
  strip_ok (by rw [fold_len]; exact ok)
theorem R_pass {code : List I} {tb : List (α × Int)} (ok : TbOk code.length tb) : R (pass code tb).1 (pass code tb).2 = R code tb := by
  unfold pass
  rw [R_strip _ _ (by rw [fold_len]; exact ok), R_fold _ _ ok]
theorem pass_len_le (code : List I) (tb : List (α × Int)) : (pass code tb).1.length ≤ code.length := by
  unfold pass; rw [strip_len, ← fold_len code tb]; exact keep_le _
theorem pass_same {code : List I} {tb : List (α × Int)} (ok : TbOk code.length tb) (h : (pass code tb).1.length = code.length) :
    NoNop code ∧ Clean (tgs (tg code tb)) 0 code ∧ fold code tb = code ∧ pass code tb = (code, tb) := by
  have hn : NoNop (fold code tb) := nonop_of_len (by rw [← strip_len (fold code tb) tb, fold_len]; exact h)
  have q := (F_is (tgs (tg code tb)) 0 code).clean hn
  have e : fold code tb = code := q.1
  refine ⟨e ▸ hn, q.2, e, ?_⟩
  unfold pass
  rw [e, strip_id ok (e ▸ hn)]
theorem opt_eq : ∀ (k : Nat) (code : List I) (tb : List (α × Int)), code.length < k → TbOk code.length tb → opt k code tb = R code tb
  | 0, _, _, h, _ => by omega
  | k + 1, code, tb, h, ok => by
    unfold opt
    split
    · rename_i e
      have q := pass_same ok (by rw [e])
      exact (R_clean ok q.1 q.2.1).symm
    · rename_i e
      have hlt : (pass code tb).1.length < code.length := by
        refine Nat.lt_of_le_of_ne (pass_len_le code tb) fun hl => e ?_
        rw [(pass_same ok hl).2.2.2]
      rw [opt_eq k _ _ (by omega) (pass_ok ok), R_pass ok]
/-- what is optimized is settled -/
theorem R_settled : ∀ (k : Nat) (code : List I) (tb : List (α × Int)), code.length < k → TbOk code.length tb →
    TbOk (R code tb).1.length (R code tb).2 ∧ NoNop (R code tb).1 ∧ Clean (tgs (tg (R code tb).1 (R code tb).2)) 0 (R code tb).1
  | 0, _, _, h, _ => by omega
  | k + 1, code, tb, h, ok => by
    by_cases e : (pass code tb).1.length = code.length
    · have q := pass_same ok e
      rw [R_clean ok q.1 q.2.1]
      exact ⟨ok, q.1, q.2.1⟩
    · have hle := pass_len_le code tb
      have := R_settled k _ _ (by omega) (pass_ok ok)
      rw [R_pass ok] at this
      exact this
end
end Mine
end
section
namespace Mine
open PySem
open PySem.SeqAt (shaped)

/-! ## pure denotations: slots, expressions, statements -/
inductive Slot where
  | no
  | val (d : PyData)
  | own (xs : List PyData)
  | bag (l : List Int)
abbrev St := List Slot
inductive Out where
  | next (σ : St)
  | brk (σ : St)
  | cont (σ : St)
  | ret (d : PyData)
abbrev DE := St → Option PyData
abbrev DB := St → Option Bool
abbrev DA := St → Option Slot
abbrev DL := St → Option (List PyData)
abbrev DS := St → Option Out

noncomputable def dName (i : Nat) : DE := fun σ => match σ[i]? with
  | some (.val d) => some d
  | _ => none
noncomputable def dLit (d : PyData) : DE := fun _ => some d
noncomputable def dAll : List DE → DL
  | [], _ => some []
  | e :: r, σ => match e σ with
    | some d => (match dAll r σ with
      | some ds => some (d :: ds)
      | none => none)
    | none => none
noncomputable def dTup (es : List DE) : DE := fun σ => (dAll es σ).map .tuple
noncomputable def dLst (es : List DE) : DE := fun σ => (dAll es σ).map .list

noncomputable def d1 (f : PyData → Option PyData) (a : DE) : DE := fun σ => match a σ with
  | some x => f x
  | none => none
noncomputable def d2 (f : PyData → PyData → Option PyData) (a b : DE) : DE := fun σ => match a σ with
  | some x => (match b σ with
    | some y => f x y
    | none => none)
  | none => none
noncomputable def b1 (f : PyData → Option Bool) (a : DE) : DB := fun σ => match a σ with
  | some x => f x
  | none => none
noncomputable def b2 (f : PyData → PyData → Option Bool) (a b : DE) : DB := fun σ => match a σ with
  | some x => (match b σ with
    | some y => f x y
    | none => none)
  | none => none

noncomputable def listLine : Nat := 2 ^ 20
/-- a factor that the model multiplies -/
abbrev Fac (a : Int) : Prop := a.natAbs.log2 < 2 ^ 25
noncomputable def vAdd : PyData → PyData → Option PyData
  | .int a, .int b => some (.int (a + b))
  | .list a, .list b => if a.length + b.length ≤ listLine then some (.list (a ++ b)) else none
  | _, _ => none
noncomputable def vSub : PyData → PyData → Option PyData
  | .int a, .int b => some (.int (a - b))
  | _, _ => none
noncomputable def vMul : PyData → PyData → Option PyData
  | .int a, .int b => if Fac a ∧ Fac b then some (.int (a * b)) else none
  | _, _ => none
noncomputable def vDiv : PyData → PyData → Option PyData
  | .int a, .int b => if b = 0 then none else some (.int (a.fdiv b))
  | _, _ => none
noncomputable def vMod : PyData → PyData → Option PyData
  | .int a, .int b => if b = 0 then none else some (.int (a.fmod b))
  | _, _ => none
noncomputable def vNeg : PyData → Option PyData
  | .int a => some (.int (-a))
  | _ => none
noncomputable def vEq (a b : PyData) : Option Bool := if shaped a && shaped b then some (PyData.eqv a b) else none
noncomputable def vNe (a b : PyData) : Option Bool := if shaped a && shaped b then some (!PyData.eqv a b) else none
noncomputable def vLt : PyData → PyData → Option Bool
  | .int a, .int b => some (decide (a < b))
  | _, _ => none
noncomputable def vLe : PyData → PyData → Option Bool
  | .int a, .int b => some (decide (a ≤ b))
  | _, _ => none
noncomputable def vGt : PyData → PyData → Option Bool
  | .int a, .int b => some (decide (a > b))
  | _, _ => none
noncomputable def vGe : PyData → PyData → Option Bool
  | .int a, .int b => some (decide (a ≥ b))
  | _, _ => none
noncomputable def vIn (x c : PyData) : Option Bool := match c with
  | .list xs => if shaped x && xs.all shaped then some (xs.any fun y => PyData.eqv y x) else none
  | .tuple xs => if shaped x && xs.all shaped then some (xs.any fun y => PyData.eqv y x) else none
  | _ => none
noncomputable def vNotIn (x c : PyData) : Option Bool := (vIn x c).map (! ·)
noncomputable def idxOf (n : Nat) (k : Int) : Option Nat :=
  if n ≤ listLine then (if 0 ≤ k then (if k < n then some k.toNat else none) else (if 0 ≤ k + n then some (k + n).toNat else none)) else none
noncomputable def vItem (c i : PyData) : Option PyData := match c, i with
  | .list xs, .int k => (match idxOf xs.length k with
    | some j => xs[j]?
    | none => none)
  | .tuple xs, .int k => (match idxOf xs.length k with
    | some j => xs[j]?
    | none => none)
  | _, _ => none
/-- a slice's bound, as Python clamps it -/
noncomputable def clamp (n : Nat) (k : Int) : Nat := if k < 0 then (if k + n < 0 then 0 else (k + n).toNat) else (if k > n then n else k.toNat)
noncomputable def vSliceTo (c hi : PyData) : Option PyData := match c, hi with
  | .list xs, .int k => if xs.length ≤ listLine then some (.list (xs.take (clamp xs.length k))) else none
  | _, _ => none
noncomputable def vSliceFrom (c lo : PyData) : Option PyData := match c, lo with
  | .list xs, .int k => if xs.length ≤ listLine then some (.list (xs.drop (clamp xs.length k))) else none
  | _, _ => none
noncomputable def vLen : PyData → Option PyData
  | .list xs => if xs.length ≤ listLine then some (.int xs.length) else none
  | .tuple xs => if xs.length ≤ listLine then some (.int xs.length) else none
  | _ => none
noncomputable def sortI (l : List Int) : List Int := l.mergeSort (fun a b => decide (a ≤ b))
noncomputable def intsOf : List PyData → Option (List Int)
  | [] => some []
  | .int i :: r => (intsOf r).map (i :: ·)
  | _ => none
noncomputable def vSorted : PyData → Option PyData
  | .list xs => (match intsOf xs with
    | some l => if l.length < 64 then some (.list ((sortI l).map .int)) else none
    | none => none)
  | _ => none
noncomputable def vListOf : PyData → Option PyData
  | .list xs => if xs.length ≤ listLine then some (.list xs) else none
  | _ => none
noncomputable def tyName : PyData → Option String
  | .int _ => some "int"
  | .str _ => some "str"
  | .list _ => some "list"
  | .tuple _ => some "tuple"
  | _ => none
noncomputable def bType (T : String) (e : DE) : DB := fun σ => match e σ with
  | some d => (tyName d).map fun t => decide (t = T)
  | none => none
noncomputable def vTruth : PyData → Option Bool
  | .bool b => some b
  | _ => none
noncomputable def bVal (b : DB) : DE := fun σ => (b σ).map .bool
noncomputable def bOf (a : DE) : DB := b1 vTruth a
noncomputable def bNot (a : DB) : DB := fun σ => (a σ).map (! ·)
noncomputable def bAnd : List DB → DB
  | [], _ => some true
  | a :: r, σ => match a σ with
    | some true => bAnd r σ
    | some false => some false
    | none => none
noncomputable def bOr : List DB → DB
  | [], _ => some false
  | a :: r, σ => match a σ with
    | some true => some true
    | some false => bOr r σ
    | none => none
noncomputable def dIte (c : DB) (a b : DE) : DE := fun σ => match c σ with
  | some true => a σ
  | some false => b σ
  | none => none
/-- a ≤ b ≤ c -/
noncomputable def bChain (a b c : DE) : DB := fun σ => match a σ with
  | some x => (match b σ with
    | some y => (match vLe x y with
      | some true => (match c σ with
        | some z => vLe y z
        | none => none)
      | some false => some false
      | none => none)
    | none => none)
  | none => none
noncomputable def dOwnLen (i : Nat) : DE := fun σ => match σ[i]? with
  | some (.own xs) => vLen (.list xs)
  | _ => none
noncomputable def dOwnItem (i : Nat) (e : DE) : DE := fun σ => match σ[i]?, e σ with
  | some (.own xs), some k => vItem (.list xs) k
  | _, _ => none
noncomputable def bBag (a : DE) (i : Nat) : DB := fun σ => match a σ, σ[i]? with
  | some (.int k), some (.bag l) => some (decide (k ∈ l))
  | _, _ => none
noncomputable def aVal (e : DE) : DA := fun σ => (e σ).map .val
noncomputable def aSlot (i : Nat) : DA := fun σ => match σ[i]? with
  | some (.bag l) => some (.bag l)
  | _ => none
noncomputable def aAll : List DA → St → Option (List Slot)
  | [], _ => some []
  | e :: r, σ => match e σ with
    | some d => (match aAll r σ with
      | some ds => some (d :: ds)
      | none => none)
    | none => none
noncomputable def dCall (f : List Slot → Option PyData) (args : List DA) : DE := fun σ => match aAll args σ with
  | some ds => f ds
  | none => none

abbrev DD := St → Option (List (Str × PyData))
noncomputable def dPairs (ks : List Str) (es : List DE) : DD := fun σ => (dAll es σ).map (ks.zip ·)
noncomputable def dKvs (kvs : List (Str × PyData)) : DD := fun _ => some kvs
noncomputable def dTab (kd : DD) (e : DE) : DE := fun σ => match kd σ, e σ with
  | some kvs, some (.str x) => kvs.lookup x
  | _, _ => none
noncomputable def bHas (e : DE) (kd : DD) : DB := fun σ => match e σ, kd σ with
  | some (.str x), some kvs => some (kvs.lookup x).isSome
  | _, _ => none
/-! ### statements -/
noncomputable def sNo : DS := fun _ => none
noncomputable def setAll : List Nat → List PyData → St → Option St
  | [], [], σ => some σ
  | i :: is, d :: ds, σ => setAll is ds (σ.set i (.val d))
  | _, _, _ => none
noncomputable def unpackTo (is : List Nat) (d : PyData) (σ : St) : Option St := match d with
  | .tuple ds => setAll is ds σ
  | .list ds => setAll is ds σ
  | _ => none
noncomputable def toOne (i : Nat) (d : PyData) (σ : St) : Option St := some (σ.set i (.val d))
noncomputable def sLet (i : Nat) (e : DE) : DS := fun σ => match e σ with
  | some d => some (.next (σ.set i (.val d)))
  | none => none
noncomputable def sUnpack (is : List Nat) (e : DE) : DS := fun σ => match e σ with
  | some d => (match unpackTo is d σ with
    | some σ' => some (.next σ')
    | none => none)
  | none => none
noncomputable def sOwn (i : Nat) (e : DL) : DS := fun σ => match e σ with
  | some xs => some (.next (σ.set i (.own xs)))
  | none => none
noncomputable def sAppend (i : Nat) (e : DE) : DS := fun σ => match e σ with
  | some d => (match σ[i]? with
    | some (.own xs) => if xs.length ≤ listLine then some (.next (σ.set i (.own (xs ++ [d])))) else none
    | _ => none)
  | none => none
noncomputable def sExtend (i : Nat) (e : DE) : DS := fun σ => match e σ with
  | some (.list ds) => (match σ[i]? with
    | some (.own xs) => if xs.length + ds.length ≤ listLine then some (.next (σ.set i (.own (xs ++ ds)))) else none
    | _ => none)
  | _ => none
noncomputable def sSetItem (i : Nat) (k e : DE) : DS := fun σ => match e σ, k σ, σ[i]? with
  | some d, some (.int k), some (.own xs) => if (0 ≤ k ∧ k < (xs.length : Int)) ∧ xs.length ≤ listLine then some (.next (σ.set i (.own (xs.set k.toNat d)))) else none
  | _, _, _ => none
noncomputable def sFreeze (i : Nat) : DS := fun σ => match σ[i]? with
  | some (.own xs) => some (.next (σ.set i (.val (.list xs))))
  | _ => none
noncomputable def sRet (e : DE) : DS := fun σ => (e σ).map .ret
noncomputable def sBrk : DS := fun σ => some (.brk σ)
noncomputable def sCont : DS := fun σ => some (.cont σ)
noncomputable def sIf (c : DB) (a b : DS) : DS := fun σ => match c σ with
  | some true => a σ
  | some false => b σ
  | none => none
noncomputable def sSeq : List DS → DS
  | [], σ => some (.next σ)
  | a :: r, σ => match a σ with
    | some (.next σ') => sSeq r σ'
    | some o => some o
    | none => none
noncomputable def loop (tgt : PyData → St → Option St) (body : DS) : List PyData → St → Option Out
  | [], σ => some (.next σ)
  | x :: r, σ => match tgt x σ with
    | some σ₁ => (match body σ₁ with
      | some (.next σ₂) => loop tgt body r σ₂
      | some (.cont σ₂) => loop tgt body r σ₂
      | some (.brk σ₂) => some (.next σ₂)
      | some (.ret d) => some (.ret d)
      | none => none)
    | none => none
noncomputable def sFor (tgt : PyData → St → Option St) (src : DL) (body : DS) : DS := fun σ => match src σ with
  | some xs => loop tgt body xs σ
  | none => none
noncomputable def items (e : DE) : DL := fun σ => match e σ with
  | some (.list xs) => some xs
  | some (.tuple xs) => some xs
  | _ => none
noncomputable def iota (a : Int) (n : Nat) : List Int := (List.range n).map (fun k : Nat => a + (k : Int))
noncomputable def rangeTo (e : DE) : DL := fun σ => match e σ with
  | some (.int k) => if -(2 ^ 20) < k ∧ k < 2 ^ 20 then some ((iota 0 k.toNat).map .int) else none
  | _ => none
noncomputable def range2 (a b : DE) : DL := fun σ => match a σ, b σ with
  | some (.int i), some (.int k) => if (-(2 ^ 20) < i ∧ i < 2 ^ 20) ∧ -(2 ^ 20) < k ∧ k < 2 ^ 20 then some ((iota i (k - i).toNat).map .int) else none
  | _, _ => none
/-- a comprehension's turns: its own slots, then those that it sees of the frame -/
noncomputable def comp (tgt : PyData → St → Option St) (test : DB) (elt : DE) (σ : St) : List PyData → Option (List PyData)
  | [] => some []
  | x :: r => match tgt x σ with
    | some σ₁ => (match test σ₁ with
      | some true => (match elt σ₁ with
        | some d => (match comp tgt test elt σ r with
          | some ds => some (d :: ds)
          | none => none)
        | none => none)
      | some false => comp tgt test elt σ r
      | none => none)
    | none => none
noncomputable def look (σ : St) (i : Nat) : Slot := match σ[i]? with
  | some (.val d) => .val d
  | some (.bag l) => .bag l
  | _ => .no
/-- fr : own slots that the comprehension has; see : the frame's slots that it reads -/
noncomputable def lComp (own : Nat) (see : List Nat) (tgt : PyData → St → Option St) (src : DL) (test : DB) (elt : DE) : DL := fun σ => match src σ with
  | some xs => if xs.length ≤ listLine then comp tgt test elt (List.replicate own .no ++ see.map (look σ)) xs else none
  | none => none
noncomputable def bTrue : DB := fun _ => some true
noncomputable def dComp (l : DL) : DE := fun σ => (l σ).map .list
noncomputable def runFn (np n : Nat) (body : DS) (args : List Slot) : Option PyData := if args.length = np then (match body (args ++ List.replicate n .no) with
  | some (.ret d) => some d
  | _ => none) else none
end Mine
end
section
namespace Mine
open PySem PySem.W PySem.Calls PyProof.Rows

/-! ## heaps that only grow -/
noncomputable def Sub (g h : Heap) : Prop := ∀ b o, g.get? b = some o → h.get? b = some o
theorem Sub.rf {g : Heap} : Sub g g := fun _ _ e => e
theorem Sub.trans {a b c : Heap} (x : Sub a b) (y : Sub b c) : Sub a c := fun p o e => y p o (x p o e)
theorem hid_mem {h : Heap} {X : List Addr} {b : Addr} {o : Obj} (e : (hideAll h X).get? b = some o) : b ∉ X := fun m => by
  rw [hideAll_none X m] at e; cases e
theorem hid_sub {h h' : Heap} {X X' : List Addr} (k : ∀ b o, b ∉ X → h.get? b = some o → h'.get? b = some o ∧ b ∉ X') : Sub (hideAll h X) (hideAll h' X') := fun b o e =>
  have q := k b o (hid_mem e) (of_hideAll X e)
  hideAll_get X' q.1 q.2

structure Ext (s s' : Shared) : Prop where
  same : ∃ h tk, s' = { s with heap := h, toks := tk }
  keep : Sub s.heap s'.heap
theorem Ext.rf {s : Shared} : Ext s s := ⟨⟨_, _, rfl⟩, Sub.rf⟩
theorem Ext.trans {a b c : Shared} (x : Ext a b) (y : Ext b c) : Ext a c := by
  obtain ⟨⟨h, tk, rfl⟩, k⟩ := x
  obtain ⟨⟨h', tk', rfl⟩, k'⟩ := y
  exact ⟨⟨_, _, rfl⟩, k.trans k'⟩
theorem Ext.trans_priv {a b c : Shared} (x : Ext a b) (y : ∃ p, Heap.SameBut p b.heap c.heap ∧ a.heap.get? p = none ∧ ∃ tk, c = { b with heap := c.heap, toks := tk }) : Ext a c := by
  obtain ⟨⟨h, tk, rfl⟩, k⟩ := x
  obtain ⟨p, hs, hn, tk', e⟩ := y
  refine ⟨⟨c.heap, tk', by rw [e]⟩, fun q o g => (hs.2 q fun z => ?_).trans (k q o g)⟩
  rw [z, hn] at g; cases g
theorem Ext.tok {s : Shared} (t : Nat) : Ext s { s with toks := t } := ⟨⟨_, _, rfl⟩, Sub.rf⟩
theorem Ext.push {s : Shared} (o : Obj) : Ext s { s with heap := s.heap.push o } := ⟨⟨_, _, rfl⟩, fun _ _ e => Heap.get?_push_of_some _ e⟩

noncomputable def Rd (X : List Addr) (h : Heap) (v : Value) (d : PyData) : Prop := ∃ as, Reads (hideAll h X) v d as
noncomputable def RdAll (X : List Addr) (h : Heap) (vs : List Value) (ds : List PyData) : Prop := ∃ as, ReadsAll (hideAll h X) vs ds as
section
variable {X X' : List Addr} {h h' : Heap} {v : Value} {d : PyData} {vs : List Value} {ds : List PyData}
theorem Rd.keeps (x : Rd X h v d) (k : Sub (hideAll h X) (hideAll h' X')) : Rd X' h' v d := let ⟨as, r⟩ := x; ⟨as, PyProof.Rows.Reads.keeps k r⟩
theorem RdAll.keeps (x : RdAll X h vs ds) (k : Sub (hideAll h X) (hideAll h' X')) : RdAll X' h' vs ds := let ⟨as, r⟩ := x; ⟨as, PyProof.Rows.ReadsAll.keeps k r⟩
theorem Rd.grow (x : Rd X h v d) (k : Sub h h') : Rd X h' v d := x.keeps (hid_sub fun b o nb e => ⟨k b o e, nb⟩)
theorem RdAll.grow (x : RdAll X h vs ds) (k : Sub h h') : RdAll X h' vs ds := x.keeps (hid_sub fun b o nb e => ⟨k b o e, nb⟩)
theorem Rd.less (x : Rd X h v d) (k : ∀ a ∈ X', a ∈ X) : Rd X' h v d := x.keeps (hid_sub fun b o nb e => ⟨e, fun m => nb (k b m)⟩)
theorem RdAll.less (x : RdAll X h vs ds) (k : ∀ a ∈ X', a ∈ X) : RdAll X' h vs ds := x.keeps (hid_sub fun b o nb e => ⟨e, fun m => nb (k b m)⟩)
theorem Rd.int (i : Int) (t : Tok) : Rd X h (.int i t) (.int i) := ⟨_, .int i t⟩
theorem Rd.bool (b : Bool) : Rd X h (.bool b) (.bool b) := ⟨_, .bool b⟩
theorem Rd.str (x : Str) (t : Tok) : Rd X h (.str x t) (.str x) := ⟨_, .str x t⟩
theorem Rd.none : Rd X h .none .none := ⟨_, .none⟩
theorem RdAll.nil : RdAll X h [] [] := ⟨_, .nil⟩
theorem RdAll.cons (x : Rd X h v d) (y : RdAll X h vs ds) : RdAll X h (v :: vs) (d :: ds) := let ⟨_, r⟩ := x; let ⟨_, q⟩ := y; ⟨_, .cons r q⟩
theorem RdAll.inv {v : Value} {d : PyData} (y : RdAll X h (v :: vs) (d :: ds)) : Rd X h v d ∧ RdAll X h vs ds := by
  obtain ⟨_, r⟩ := y; cases r with | cons a b => exact ⟨⟨_, a⟩, ⟨_, b⟩⟩
theorem RdAll.length (y : RdAll X h vs ds) : vs.length = ds.length := by
  obtain ⟨_, r⟩ := y
  exact PySem.SeqAt.ReadsAll.length _ _ _ r
theorem Rd.ofInt {i : Int} (x : Rd X h v (.int i)) : ∃ t, v = .int i t := by obtain ⟨_, r⟩ := x; cases r; exact ⟨_, rfl⟩
theorem Rd.ofStr {i : Str} (x : Rd X h v (.str i)) : ∃ t, v = .str i t := by obtain ⟨_, r⟩ := x; cases r; exact ⟨_, rfl⟩
theorem Rd.ofBool {i : Bool} (x : Rd X h v (.bool i)) : v = .bool i := by obtain ⟨_, r⟩ := x; cases r; rfl
theorem Rd.ofList {xs : List PyData} (x : Rd X h v (.list xs)) : ∃ a o ws n, v = .ref a ∧ a ∉ X ∧ h.get? a = some o ∧ o.cls = .type "list" ∧ o.data = .seq ws n ∧ RdAll X h ws.toList xs := by
  obtain ⟨_, r⟩ := x
  cases r with
  | list g c e q => exact ⟨_, _, _, _, rfl, hid_mem g, of_hideAll _ g, c, e, ⟨_, q⟩⟩
theorem Rd.ofTuple {xs : List PyData} (x : Rd X h v (.tuple xs)) : ∃ a o ws n, v = .ref a ∧ a ∉ X ∧ h.get? a = some o ∧ o.cls = .type "tuple" ∧ o.data = .seq ws n ∧ RdAll X h ws.toList xs := by
  obtain ⟨_, r⟩ := x
  cases r with
  | tuple g c e q => exact ⟨_, _, _, _, rfl, hid_mem g, of_hideAll _ g, c, e, ⟨_, q⟩⟩
theorem Rd.list {xs : List PyData} {a : Addr} {o : Obj} {ws : Array Value} {n : Nat} (na : a ∉ X) (g : h.get? a = some o) (c : o.cls = .type "list") (e : o.data = .seq ws n) (q : RdAll X h ws.toList xs) : Rd X h (.ref a) (.list xs) := by
  obtain ⟨_, q⟩ := q
  exact ⟨_, .list (hideAll_get X g na) c e q⟩
theorem Rd.tuple {xs : List PyData} {a : Addr} {o : Obj} {ws : Array Value} {n : Nat} (na : a ∉ X) (g : h.get? a = some o) (c : o.cls = .type "tuple") (e : o.data = .seq ws n) (q : RdAll X h ws.toList xs) : Rd X h (.ref a) (.tuple xs) := by
  obtain ⟨_, q⟩ := q
  exact ⟨_, .tuple (hideAll_get X g na) c e q⟩
end

/-! ## a frame -/
structure Cx where
  A : Around
  env : Env
  names : List Str
  priv : List Addr
  X0 : List Addr
  s0 : Shared
  base : Heap
  frs : List Env

structure Fm (env : Env) (h : Heap) (μ : Str → Option Value) : Prop where
  ns : ∃ m, h.Ns env.locals m ∧ ∀ x, env.kindOf x = some .local → m x = μ x
  cell : ∀ x c, env.kindOf x ≠ some .local → env.cells.lookup x = some c → h.IsCell c (μ x)

/-- a list of ints, or a range by ones: what may stand behind «in» -/
noncomputable def Bag (X : List Addr) (h : Heap) (v : Value) (l : List Int) : Prop :=
  Rd X h v (.list (l.map .int)) ∨ ∃ r a b t u t', v = .ref r ∧ r ∉ X ∧ IsRange h r a b 1 t u t' ∧ l = iota a (b - a).toNat
theorem Bag.keeps {X X' : List Addr} {h h' : Heap} {v : Value} {l : List Int} (x : Bag X h v l) (k : Sub (hideAll h X) (hideAll h' X')) : Bag X' h' v l := by
  rcases x with x | ⟨r, a, b, t, u, t', e, n, y, z⟩
  · exact .inl (x.keeps k)
  · have q := k r _ (hideAll_get X y n)
    exact .inr ⟨r, a, b, t, u, t', e, hid_mem q, of_hideAll _ q, z⟩
theorem Bag.grow {X : List Addr} {h h' : Heap} {v : Value} {l : List Int} (x : Bag X h v l) (k : Sub h h') : Bag X h' v l := x.keeps (hid_sub fun b o nb e => ⟨k b o e, nb⟩)

noncomputable def lobj (ws : Array Value) (n : Nat) : Obj := { cls := .type "list", dict := none, data := .seq ws n, slots := #[] }
noncomputable def SlotIs (X : List Addr) (h : Heap) (own : List (Nat × Addr)) (i : Nat) (v : Option Value) : Slot → Prop
  | .no => True
  | .val d => ∃ u, v = some u ∧ Rd X h u d
  | .own xs => ∃ a ws m, v = some (.ref a) ∧ (i, a) ∈ own ∧ h.get? a = some (lobj ws m) ∧ RdAll X h ws.toList xs
  | .bag l => ∃ u, v = some u ∧ Bag X h u l

abbrev Cx.X (C : Cx) (its : List Addr) (own : List (Nat × Addr)) : List Addr := C.X0 ++ (C.priv ++ (its ++ own.map (·.2)))

/-- what a global name means -/
noncomputable def GV (x : Str) (v : Value) (h : Heap) : Prop :=
  (∃ mg, h.Ns mainGlobals mg ∧ mg x = some v) ∨ ∃ mg mb, h.Ns mainGlobals mg ∧ mg x = none ∧ h.Ns builtinsNs mb ∧ mb x = some v
theorem GV.keeps {x : Str} {v : Value} {h h' : Heap} (g : GV x v h) (k : Sub h h') : GV x v h' := by
  rcases g with ⟨mg, a, b⟩ | ⟨mg, mb, a, b, c, d⟩
  · exact .inl ⟨mg, a.keeps k, b⟩
  · exact .inr ⟨mg, mb, a.keeps k, b, c.keeps k, d⟩

structure Room (A : Around) (n : Nat) : Prop where
  handled : A.handled = none
  depth : A.depth + n + 150 < recursionLimit
  units : A.units + 4 * n + 200 < cLine

structure Cx.Ok (C : Cx) (n : Nat) (top : Heap → Prop) : Prop where
  room : Room C.A n
  kind : C.env.scope.kind = .function
  glob : C.env.globals = mainGlobals
  bi : C.env.builtins = builtinsNs
  loc : C.env.locals ∈ C.priv
  x0 : ∀ x ∈ C.X0, ∃ o, C.s0.heap.get? x = some o
  bs : Sub C.base C.s0.heap
  nd : C.names.Nodup
  cin : ∀ q ∈ C.env.cells, q.2 ∈ C.priv ∨ ∃ o, C.s0.heap.get? q.2 = some o
  apart : C.env.cells.Pairwise fun x y => x.2 ≠ y.2
  off : ∀ p ∈ C.env.cells, p.2 ≠ C.env.locals
  top : top (hideAll C.s0.heap C.X0)
  lim : (hideAll C.s0.heap C.X0).NoLimit
  seer : (hideAll C.s0.heap C.X0).NoSeer
  frames : C.A.frames = some C.frs
  hd : ∃ e l, C.frs = e :: l ∧ e.scope.isGenerator = false ∧ e.scope.isCoroutine = false ∧ e.builtins = builtinsNs ∧ e.globals = mainGlobals

structure Rel (C : Cx) (its : List Addr) (own : List (Nat × Addr)) (σ : List Slot) (s : Shared) : Prop where
  ext : Ext C.s0 s
  fresh : ∀ x ∈ C.priv ++ (its ++ own.map (·.2)), C.s0.heap.get? x = none
  alloc : ∀ x ∈ C.X its own, ∃ o, s.heap.get? x = some o
  apart : (own.map (·.2)).Nodup
  off : ∀ p ∈ own, p.2 ∉ C.priv ∧ p.2 ∉ its ∧ ∀ q ∈ C.env.cells, q.2 ≠ p.2
  frames : s.heap.FunFrames C.base C.frs
  vars : ∃ μ, Fm C.env s.heap μ ∧ ∀ i x sl, C.names[i]? = some x → σ[i]? = some sl → SlotIs (C.X its own) s.heap own i (μ x) sl

theorem FunFrames_keeps {h h' base : Heap} {l : List Env} (x : h.FunFrames base l) (k : Sub h h') : h'.FunFrames base l :=
  x.of_keeps fun b o e _ => ⟨o, k b o e, rfl⟩

section
variable {C : Cx} {its : List Addr} {own : List (Nat × Addr)} {σ : List Slot} {s s' : Shared}
theorem SlotIs.grow {X : List Addr} {h h' : Heap} {i : Nat} {v : Option Value} {sl : Slot} (x : SlotIs X h own i v sl) (k : Sub h h') : SlotIs X h' own i v sl := by
  cases sl with
  | no => trivial
  | val d => obtain ⟨u, e, r⟩ := x; exact ⟨u, e, r.grow k⟩
  | own xs => obtain ⟨a, ws, m, e, hm, g, q⟩ := x; exact ⟨a, ws, m, e, hm, k _ _ g, q.grow k⟩
  | bag l => obtain ⟨u, e, r⟩ := x; exact ⟨u, e, r.grow k⟩
theorem Fm.grow {env : Env} {h h' : Heap} {μ : Str → Option Value} (x : Fm env h μ) (k : Sub h h') : Fm env h' μ :=
  ⟨let ⟨m, a, b⟩ := x.ns; ⟨m, a.keeps k, b⟩, fun y c a b => (x.cell y c a b).keeps k⟩
theorem Rel.grow (x : Rel C its own σ s) (e : Ext s s') : Rel C its own σ s' where
  ext := x.ext.trans e
  fresh := x.fresh
  alloc := fun a ha => let ⟨o, g⟩ := x.alloc a ha; ⟨o, e.keep _ _ g⟩
  apart := x.apart
  off := x.off
  frames := FunFrames_keeps x.frames e.keep
  vars := let ⟨μ, f, v⟩ := x.vars; ⟨μ, f.grow e.keep, fun i y sl a b => (v i y sl a b).grow e.keep⟩
/-- the base is seen at every state -/
theorem Rel.seen (x : Rel C its own σ s) : Sub (hideAll C.s0.heap C.X0) (hideAll s.heap (C.X its own)) :=
  hid_sub fun b o nb e => ⟨x.ext.keep b o e, fun m => by
    rcases List.mem_append.mp m with m | m
    · exact nb m
    · rw [x.fresh b m] at e; cases e⟩
theorem Rel.seen' (x : Rel C its own σ s) : Sub (hideAll C.s0.heap C.X0) s.heap := fun b o e => of_hideAll _ (x.seen b o e)
/-- a new object's address is not hidden -/
theorem Rel.new (x : Rel C its own σ s) : s.heap.objs.size ∉ C.X its own := fun m => by
  obtain ⟨o, g⟩ := x.alloc _ m
  exact Nat.lt_irrefl _ (Heap.lt_size g)
end
end Mine
end
section
namespace Mine
open PySem PySem.W PySem.Calls PyProof.Rows
open PySem.SeqAt (shaped)

section
variable (prog : Program) (w : World)
noncomputable def SE (C : Cx) (e : Expr) (d : DE) : Prop :=
  ∀ its own σ s r (Q : Value → Shared → Prop) (E : Value → Shared → Prop), Rel C its own σ s → d σ = some r →
    (∀ v s', Ext s s' → Rd (C.X its own) s'.heap v r → Q v s') → wpAny (model prog w) C.A (eval e C.env) Q E s
noncomputable def SB (C : Cx) (e : Expr) (d : DB) : Prop :=
  ∀ its own σ s r (Q : Bool → Shared → Prop) (E : Value → Shared → Prop), Rel C its own σ s → d σ = some r →
    (∀ s', Ext s s' → Q r s') → wpAny (model prog w) C.A (isTrue e C.env (eval e C.env)) Q E s
/-- expressions in a row (a display, arguments) -/
noncomputable def SEs (C : Cx) (es : List Expr) (d : DL) : Prop :=
  ∀ pos its own σ s r (Q : List Value → Shared → Prop) (E : Value → Shared → Prop), Rel C its own σ s → d σ = some r →
    (∀ vs s', Ext s s' → RdAll (C.X its own) s'.heap vs r → Q vs s') → wpAny (model prog w) C.A (spliced (backTo pos (starEach es C.env))) Q E s
end

section
variable {prog : Program} {w : World} {C : Cx} {n : Nat} {top : Heap → Prop}

noncomputable def kindOk (env : Env) (x : Str) : Bool := (match env.kindOf x with
  | some .local => true
  | some .cell => (env.cells.lookup x).isSome
  | some .free => (env.cells.lookup x).isSome && !(x == ("__classdict__" : Str))
  | _ => false) && !(x == ("__debug__" : Str))

theorem Fm.load {A : Around} {M : Model} {E : Value → Shared → Prop} {s : Shared} {env : Env} {μ : Str → Option Value} {x : Str} {v : Value} {Q : Value → Shared → Prop} (f : Fm env s.heap μ)
    (hk : env.scope.kind = .function) (ok : kindOk env x = true) (hv : μ x = some v) (h : Q v s) : wpAny M A (loadName env x) Q E s := by
  unfold kindOk at ok
  rw [Bool.and_eq_true] at ok
  obtain ⟨ok, _⟩ := ok
  split at ok
  · rename_i hl
    obtain ⟨m, hm, e⟩ := f.ns
    exact wpAny_loadName_local hk hl hm ((e x hl).trans hv) h
  · rename_i hl
    obtain ⟨c, hc⟩ := Option.isSome_iff_exists.mp ok
    exact wpAny_loadName_cell hk hl hc (hv ▸ f.cell x c (by rw [hl]; decide) hc) h
  · rename_i hl
    rw [Bool.and_eq_true] at ok
    obtain ⟨c, hc⟩ := Option.isSome_iff_exists.mp ok.1
    exact wpAny_loadName_free hk hl hc (hv ▸ f.cell x c (by rw [hl]; decide) hc) h (by simpa using ok.2)
  · cases ok

theorem dName_some {i : Nat} {σ : St} {r : PyData} (h : dName i σ = some r) : σ[i]? = some (.val r) := by
  unfold dName at h
  split at h
  · rename_i d e; cases h; exact e
  · cases h

theorem se_name (ok : C.Ok n top) {i : Nat} {x : Str} {pos : Pos} (hx : C.names[i]? = some x) (hk : kindOk C.env x = true) : SE prog w C (.Name x pos) (dName i) := by
  intro its own σ s r Q E R hd h
  obtain ⟨μ, f, v⟩ := R.vars
  obtain ⟨u, e, q⟩ := v i x _ hx (dName_some hd)
  refine wpAny_Name (f.load ok.kind hk e (h u s Ext.rf q)) ?_
  unfold kindOk at hk
  rw [Bool.and_eq_true] at hk
  simpa using hk.2

theorem se_int {i : Int} {k : Nat} {pos : Pos} : SE prog w C (.Constant (.int i) k pos) (dLit (.int i)) := by
  intro its own σ s r Q E R hd h
  cases hd
  exact wpAny_Constant_int (h _ _ (Ext.tok _) (Rd.int _ _))
theorem se_str {x : Str} {k : Nat} {pos : Pos} : SE prog w C (.Constant (.str x) k pos) (dLit (.str x)) := by
  intro its own σ s r Q E R hd h
  cases hd
  exact wpAny_Constant_str (h _ _ (Ext.tok _) (Rd.str _ _))
theorem se_bool {b : Bool} {k : Nat} {pos : Pos} : SE prog w C (.Constant (.bool b) k pos) (dLit (.bool b)) := by
  intro its own σ s r Q E R hd h
  cases hd
  exact wpAny_Constant_bool (h _ _ Ext.rf (Rd.bool _))
theorem se_none {k : Nat} {pos : Pos} : SE prog w C (.Constant .none k pos) (dLit .none) := by
  intro its own σ s r Q E R hd h
  cases hd
  exact wpAny_Constant_none (h _ _ Ext.rf Rd.none)

theorem d2_some {f : PyData → PyData → Option PyData} {a b : DE} {σ : St} {r : PyData} (h : d2 f a b σ = some r) : ∃ x y, a σ = some x ∧ b σ = some y ∧ f x y = some r := by
  unfold d2 at h
  split at h
  · split at h
    · rename_i x ex _ y ey; exact ⟨x, y, ex, ey, h⟩
    · cases h
  · cases h
theorem d1_some {f : PyData → Option PyData} {a : DE} {σ : St} {r : PyData} (h : d1 f a σ = some r) : ∃ x, a σ = some x ∧ f x = some r := by
  unfold d1 at h
  split at h
  · rename_i x ex; exact ⟨x, ex, h⟩
  · cases h
theorem b2_some {f : PyData → PyData → Option Bool} {a b : DE} {σ : St} {r : Bool} (h : b2 f a b σ = some r) : ∃ x y, a σ = some x ∧ b σ = some y ∧ f x y = some r := by
  unfold b2 at h
  split at h
  · split at h
    · rename_i x ex _ y ey; exact ⟨x, y, ex, ey, h⟩
    · cases h
  · cases h

/-- an operator, at every state that a frame may be in -/
noncomputable def Op2 (prog : Program) (w : World) (A : Around) (op : Operator) (f : PyData → PyData → Option PyData) : Prop :=
  ∀ X (s : Shared) a b x y r (Q : Value → Shared → Prop) (E : Value → Shared → Prop), PylongRoom (model prog w) A s → (∀ p ∈ X, ∃ o, s.heap.get? p = some o) → Rd X s.heap a x → Rd X s.heap b y → f x y = some r →
    (∀ v s', Ext s s' → Rd X s'.heap v r → Q v s') → wpAny (model prog w) A (binaryOp op a b) Q E s
theorem Rel.lim {its own σ s} (ok : C.Ok n top) (R : Rel C its own σ s) : s.heap.NoLimit := ok.lim.keeps R.seen'
theorem Rel.pylong {its own σ s} (ht : prog.given.tree = none) (ok : C.Ok n top) (R : Rel C its own σ s) : PylongRoom (model prog w) C.A s := by
  obtain ⟨e, l, h1, h2, h3, h4, h5⟩ := ok.hd
  have hd := ok.room.depth
  exact PylongRoom.of (R.lim ok) (by show C.A.depth + 100 < _; omega) (SeerAt.of (ok.seer.keeps R.seen') ht (by rw [ok.frames, h1]) h2 h3 h4 h5)
theorem se_bin (ht : prog.given.tree = none) (ok : C.Ok n top) {l r : Expr} {op : Operator} {pos : Pos} {dl dr : DE} {f : PyData → PyData → Option PyData} (o : Op2 prog w C.A op f) (hl : SE prog w C l dl) (hr : SE prog w C r dr) : SE prog w C (.BinOp l op r pos) (d2 f dl dr) := by
  intro its own σ s res Q E R hd h
  obtain ⟨x, y, ex, ey, e⟩ := d2_some hd
  refine wpAny_BinOp (hl _ _ _ _ _ _ _ R ex fun a s₁ e₁ ra => hr _ _ _ _ _ _ _ (R.grow e₁) ey fun b s₂ e₂ rb => ?_)
  exact o _ _ _ _ _ _ _ _ _ (((R.grow e₁).grow e₂).pylong ht ok) ((R.grow e₁).grow e₂).alloc (ra.grow e₂.keep) rb e fun v s' e' q => h v s' (e₁.trans (e₂.trans e')) q

theorem new_off {X : List Addr} {s : Shared} (al : ∀ p ∈ X, ∃ o, s.heap.get? p = some o) : s.heap.objs.size ∉ X := fun m => by
  obtain ⟨o, g⟩ := al _ m
  exact Nat.lt_irrefl _ (Heap.lt_size g)

theorem op_sub {A : Around} : Op2 prog w A .Sub vSub := by
  intro X s a b x y r Q E hl al ra rb e h
  unfold vSub at e
  split at e
  · cases e
    obtain ⟨t, rfl⟩ := ra.ofInt
    obtain ⟨u, rfl⟩ := rb.ofInt
    exact sub_int (h _ _ (Ext.tok _) (Rd.int _ _))
  · cases e
theorem fac_ok {a b : Int} (ha : Fac a) (hb : Fac b) : IntMulOk a b := by
  unfold IntMulOk
  have : ∀ c : Int, Fac c → Builtin.Int.intBits c ≤ 2 ^ 25 := fun c hc => by
    unfold Builtin.Int.intBits
    split
    · exact Nat.zero_le _
    · exact hc
  have h1 := this a ha
  have h2 := this b hb
  have : Builtin.Int.intTooBig (Builtin.Int.intBits a + Builtin.Int.intBits b) = false := by
    unfold Builtin.Int.intTooBig bitsLine
    refine decide_eq_false ?_
    have : ((2 : Int) ^ 27) = 134217728 := by decide
    have : (2 : Nat) ^ 25 = 33554432 := by decide
    omega
  rw [this]; simp
theorem op_mul {A : Around} : Op2 prog w A .Mult vMul := by
  intro X s a b x y r Q E hl al ra rb e h
  unfold vMul at e
  split at e
  · split at e
    · rename_i hf
      cases e
      obtain ⟨t, rfl⟩ := ra.ofInt
      obtain ⟨u, rfl⟩ := rb.ofInt
      exact mul_int (h _ _ (Ext.tok _) (Rd.int _ _)) (fac_ok hf.1 hf.2)
    · cases e
  · cases e
theorem op_mod {A : Around} : Op2 prog w A .Mod vMod := by
  intro X s a b x y r Q E hl al ra rb e h
  unfold vMod at e
  split at e
  · split at e
    · cases e
    · rename_i hb
      cases e
      obtain ⟨t, rfl⟩ := ra.ofInt
      obtain ⟨u, rfl⟩ := rb.ofInt
      exact mod_int' hb (h _ _ (Ext.tok _) (Rd.int _ _))
  · cases e

theorem op_div {A : Around} : Op2 prog w A .FloorDiv vDiv := by
  intro X s a b x y r Q E hl al ra rb e h
  unfold vDiv at e
  split at e
  · split at e
    · cases e
    · rename_i hb
      cases e
      obtain ⟨t, rfl⟩ := ra.ofInt
      obtain ⟨u, rfl⟩ := rb.ofInt
      exact floordiv_int hb (h _ _ (Ext.tok _) (Rd.int _ _)) (.inr hl)
  · cases e
theorem RdAll.append {X : List Addr} {h : Heap} : ∀ {vs ws : List Value} {xs ys : List PyData}, RdAll X h vs xs → RdAll X h ws ys → RdAll X h (vs ++ ws) (xs ++ ys)
  | [], _, xs, _, a, b => by
    have := a.length
    cases xs with
    | nil => exact b
    | cons => simp at this
  | v :: vs, ws, xs, ys, a, b => by
    cases xs with
    | nil => have := a.length; simp at this
    | cons x xs => exact RdAll.cons a.inv.1 (RdAll.append a.inv.2 b)
theorem rd_new {X : List Addr} {s : Shared} {vs : List Value} {xs : List PyData} (al : ∀ p ∈ X, ∃ o, s.heap.get? p = some o) (q : RdAll X s.heap vs xs) :
    Rd X (s.heap.push { cls := .type "list", data := .seq vs.toArray }) (.ref s.heap.objs.size) (.list xs) :=
  Rd.list (new_off al) (Heap.get?_push_size _ rfl) rfl rfl (by simpa using q.grow (Ext.push (s := s) _).keep)
theorem rd_newT {X : List Addr} {s : Shared} {vs : List Value} {xs : List PyData} (al : ∀ p ∈ X, ∃ o, s.heap.get? p = some o) (q : RdAll X s.heap vs xs) :
    Rd X (s.heap.push { cls := .type "tuple", data := .seq vs.toArray }) (.ref s.heap.objs.size) (.tuple xs) :=
  Rd.tuple (new_off al) (Heap.get?_push_size _ rfl) rfl rfl (by simpa using q.grow (Ext.push (s := s) _).keep)
theorem listLine_le {n : Nat} (h : n ≤ listLine) : n ≤ sizeLine := Nat.le_trans h (by decide)
theorem op_add {A : Around} : Op2 prog w A .Add vAdd := by
  intro X s a b x y r Q E hl al ra rb e h
  unfold vAdd at e
  split at e
  · cases e
    obtain ⟨t, rfl⟩ := ra.ofInt
    obtain ⟨u, rfl⟩ := rb.ofInt
    exact add_int (h _ _ (Ext.tok _) (Rd.int _ _))
  · split at e
    · rename_i hsz
      cases e
      obtain ⟨l, ⟨c1, dd, da, sl⟩, ws, n, rfl, _, g, hc, hd, q⟩ := ra.ofList
      obtain ⟨m, ⟨c2, dd2, da2, sl2⟩, ws2, n2, rfl, _, g2, hc2, hd2, q2⟩ := rb.ofList
      simp only at hc hd hc2 hd2
      subst hc hd hc2 hd2
      have l1 := q.length
      have l2 := q2.length
      rw [Array.length_toList] at l1 l2
      refine concat_meets ⟨_, g, rfl⟩ ⟨_, g2, rfl⟩ noFill_list_add seq_list_add PySem.F.slot_list_add PySem.F.entry_list_add (PySem.F.args_list_add_2 _ _) (list_addW l m ws ws2 n n2 dd dd2 sl sl2 (by rw [l1, l2]; exact listLine_le hsz)) ⟨g, g2, ?_⟩
      have e : ws ++ ws2 = (ws.toList ++ ws2.toList).toArray := by simp
      rw [e]
      exact h _ _ (Ext.push _) (rd_new al (q.append q2))
    · cases e
  · cases e

/-! ### unary, comparisons -/
theorem se_neg {x : Expr} {pos : Pos} {d : DE} (hx : SE prog w C x d) : SE prog w C (.UnaryOp .USub x pos) (d1 vNeg d) := by
  intro its own σ s r Q E R hd h
  obtain ⟨y, ey, e⟩ := d1_some hd
  refine wpAny_UnaryOp (hx _ _ _ _ _ _ _ R ey fun v s₁ e₁ ra => ?_)
  unfold vNeg at e
  split at e
  · cases e
    obtain ⟨t, rfl⟩ := ra.ofInt
    exact neg_int (h _ _ (e₁.trans (Ext.tok _)) (Rd.int _ _))
  · cases e
noncomputable def Cmp2 (prog : Program) (w : World) (A : Around) (op : CmpOp) (f : PyData → PyData → Option Bool) : Prop :=
  ∀ X (s : Shared) a b x y r (Q : Value → Shared → Prop) (E : Value → Shared → Prop), (∀ p ∈ X, ∃ o, s.heap.get? p = some o) → Rd X s.heap a x → Rd X s.heap b y → f x y = some r →
    (∀ s', Ext s s' → Q (.bool r) s') → wpAny (model prog w) A (compareOp op a b) Q E s
theorem Rd.here {X : List Addr} {h : Heap} {v : Value} {d : PyData} (x : Rd X h v d) : ∃ as, Reads h v d as := by
  obtain ⟨as, r⟩ := x; exact ⟨as, PyProof.Rows.Reads.keeps (fun b o e => of_hideAll X e) r⟩
theorem cmp_eq (rm : Room C.A n) : Cmp2 prog w C.A .Eq vEq := by
  intro X s a b x y r Q E al ra rb e h
  unfold vEq at e
  split at e
  · rename_i hs
    cases e
    rw [Bool.and_eq_true] at hs
    obtain ⟨_, ra⟩ := ra.here
    obtain ⟨_, rb⟩ := rb.here
    have := rm.units
    exact PySem.SeqAt.compareEq_shaped ra rb hs.1 hs.2 (by omega) (h _ Ext.rf)
  · cases e
theorem cmp_ne (rm : Room C.A n) : Cmp2 prog w C.A .NotEq vNe := by
  intro X s a b x y r Q E al ra rb e h
  unfold vNe at e
  split at e
  · rename_i hs
    cases e
    rw [Bool.and_eq_true] at hs
    obtain ⟨_, ra⟩ := ra.here
    obtain ⟨_, rb⟩ := rb.here
    have := rm.units
    exact PySem.SeqAt.compareNe_shaped ra rb hs.1 hs.2 (by omega) (h _ Ext.rf)
  · cases e
theorem cmp_lt {A : Around} : Cmp2 prog w A .Lt vLt := by
  intro X s a b x y r Q E al ra rb e h
  unfold vLt at e
  split at e
  · cases e
    obtain ⟨t, rfl⟩ := ra.ofInt
    obtain ⟨u, rfl⟩ := rb.ofInt
    exact lt_int (h _ Ext.rf)
  · cases e
theorem cmp_le {A : Around} : Cmp2 prog w A .LtE vLe := by
  intro X s a b x y r Q E al ra rb e h
  unfold vLe at e
  split at e
  · cases e
    obtain ⟨t, rfl⟩ := ra.ofInt
    obtain ⟨u, rfl⟩ := rb.ofInt
    exact le_int (h _ Ext.rf)
  · cases e
theorem cmp_gt {A : Around} : Cmp2 prog w A .Gt vGt := by
  intro X s a b x y r Q E al ra rb e h
  unfold vGt at e
  split at e
  · cases e
    obtain ⟨t, rfl⟩ := ra.ofInt
    obtain ⟨u, rfl⟩ := rb.ofInt
    exact gt_int (h _ Ext.rf)
  · cases e
theorem cmp_ge {A : Around} : Cmp2 prog w A .GtE vGe := by
  intro X s a b x y r Q E al ra rb e h
  unfold vGe at e
  split at e
  · cases e
    obtain ⟨t, rfl⟩ := ra.ofInt
    obtain ⟨u, rfl⟩ := rb.ofInt
    exact ge_int (h _ Ext.rf)
  · cases e
theorem shaped_all {xs : List PyData} (h : xs.all shaped = true) : PyData.canLayAll0 xs = true ∧ PyData.depthAll xs ≤ 64 := by
  induction xs with
  | nil => exact ⟨rfl, Nat.zero_le _⟩
  | cons x xs ih =>
    rw [List.all_cons, Bool.and_eq_true] at h
    have := ih h.2
    have h1 := h.1
    unfold shaped at h1
    rw [Bool.and_eq_true, decide_eq_true_eq] at h1
    refine ⟨by rw [PyData.canLayAll0, h1.1, this.1]; rfl, ?_⟩
    rw [PyData.depthAll]
    exact Nat.max_le.mpr ⟨h1.2, this.2⟩
theorem cmp_in (rm : Room C.A n) : Cmp2 prog w C.A .In vIn := by
  intro X s a b x y r Q E al ra rb e h
  have := rm.units
  unfold vIn at e
  split at e
  all_goals first
    | (split at e
       · rename_i hs
         cases e
         rw [Bool.and_eq_true] at hs
         obtain ⟨_, ra⟩ := ra.here
         obtain ⟨_, rb⟩ := rb.here
         have h2 := shaped_all hs.2
         have h1 := hs.1
         unfold shaped at h1
         rw [Bool.and_eq_true] at h1
         first
           | exact PySem.SeqAt.in_list_reads rb ra h2.1 h1.1 (by have := Nat.min_le_left (PyData.depthAll (by assumption)) x.depth; omega) (h _ Ext.rf)
           | exact PySem.SeqAt.in_tuple_reads rb ra h2.1 h1.1 (by have := Nat.min_le_left (PyData.depthAll (by assumption)) x.depth; omega) (h _ Ext.rf)
       · cases e)
    | cases e
theorem cmp_notIn (rm : Room C.A n) : Cmp2 prog w C.A .NotIn vNotIn := by
  intro X s a b x y r Q E al ra rb e h
  have := rm.units
  unfold vNotIn vIn at e
  split at e
  all_goals first
    | (split at e
       · rename_i hs
         cases e
         rw [Bool.and_eq_true] at hs
         obtain ⟨_, ra⟩ := ra.here
         obtain ⟨_, rb⟩ := rb.here
         have h2 := shaped_all hs.2
         have h1 := hs.1
         unfold shaped at h1
         rw [Bool.and_eq_true] at h1
         first
           | exact PySem.SeqAt.notIn_list_reads rb ra h2.1 h1.1 (by have := Nat.min_le_left (PyData.depthAll (by assumption)) x.depth; omega) (h _ Ext.rf)
           | exact PySem.SeqAt.notIn_tuple_reads rb ra h2.1 h1.1 (by have := Nat.min_le_left (PyData.depthAll (by assumption)) x.depth; omega) (h _ Ext.rf)
       · cases e)
    | cases e
end
end Mine
end
section
namespace Mine
open PySem PySem.W PySem.Calls PyProof.Rows
open PySem.SeqAt (shaped)
section
variable {prog : Program} {w : World} {C : Cx} {n : Nat} {top : Heap → Prop}

theorem se_cmp {l r : Expr} {op : CmpOp} {pos : Pos} {dl dr : DE} {f : PyData → PyData → Option Bool} (o : Cmp2 prog w C.A op f) (hl : SE prog w C l dl) (hr : SE prog w C r dr)
    (hm : behindInMarks op r = false := by rfl) : SE prog w C (.Compare l [op] [r] pos) (bVal (b2 f dl dr)) := by
  intro its own σ s res Q E R hd h
  unfold bVal at hd
  obtain ⟨c, hc, rfl⟩ := Option.map_eq_some_iff.mp hd
  obtain ⟨x, y, ex, ey, e⟩ := b2_some hc
  refine wpAny_Compare1 (hl _ _ _ _ _ _ _ R ex fun a s₁ e₁ ra => hr _ _ _ _ _ _ _ (R.grow e₁) ey fun b s₂ e₂ rb => ?_) hm
  exact o _ _ _ _ _ _ _ _ _ ((R.grow e₁).grow e₂).alloc (ra.grow e₂.keep) rb e fun s' e' => h _ s' (e₁.trans (e₂.trans e')) (Rd.bool _)
theorem sb_cmp {l r : Expr} {op : CmpOp} {pos : Pos} {dl dr : DE} {f : PyData → PyData → Option Bool} (o : Cmp2 prog w C.A op f) (hl : SE prog w C l dl) (hr : SE prog w C r dr)
    (hm : behindInMarks op r = false := by rfl) : SB prog w C (.Compare l [op] [r] pos) (b2 f dl dr) := by
  intro its own σ s res Q E R hd h
  obtain ⟨x, y, ex, ey, e⟩ := b2_some hd
  refine wpAny_isTrue_Compare1 (hl _ _ _ _ _ _ _ R ex fun a s₁ e₁ ra => hr _ _ _ _ _ _ _ (R.grow e₁) ey fun b s₂ e₂ rb => ?_) hm
  exact o _ _ _ _ _ _ _ _ _ ((R.grow e₁).grow e₂).alloc (ra.grow e₂.keep) rb e fun s' e' => wpAny_truthy_bool (h s' (e₁.trans (e₂.trans e')))
theorem sb_not {x : Expr} {pos : Pos} {d : DB} (hx : SB prog w C x d) : SB prog w C (.UnaryOp .Not x pos) (bNot d) := by
  intro its own σ s res Q E R hd h
  unfold bNot at hd
  obtain ⟨c, hc, rfl⟩ := Option.map_eq_some_iff.mp hd
  exact wpAny_isTrue_Not (hx _ _ _ _ _ _ _ R hc fun s' e => h s' e)
/-- a value whose truth is asked -/
theorem sb_val {e : Expr} {d : DB} (hx : SE prog w C e (bVal d)) (he : ∀ env whole, isTrue e env whole = (do let v ← whole; standAt e.pos; holding [v] (truthy v)) := by intro _ _; rfl) : SB prog w C e d := by
  intro its own σ s res Q E R hd h
  refine wpAny_isTrue_value (hx _ _ _ _ _ _ _ R (by unfold bVal; rw [hd]; rfl) fun v s₁ e₁ ra => ?_) (he _ _)
  rw [ra.ofBool]
  exact wpAny_truthy_bool (h s₁ e₁)
theorem sb_name (ok : C.Ok n top) {i : Nat} {x : Str} {pos : Pos} (hx : C.names[i]? = some x) (hk : kindOk C.env x = true) : SB prog w C (.Name x pos) (bOf (dName i)) := by
  intro its own σ s res Q E R hd h
  unfold bOf b1 at hd
  split at hd
  · rename_i y hy
    unfold vTruth at hd
    split at hd
    · cases hd
      refine wpAny_isTrue_value (se_name ok hx hk _ _ _ _ _ _ _ R hy fun v s₁ e₁ ra => ?_) rfl
      rw [ra.ofBool]
      exact wpAny_truthy_bool (h s₁ e₁)
    · cases hd
  · cases hd
noncomputable def SBs (prog : Program) (w : World) (C : Cx) (op : BoolOp) (es : List Expr) (d : DB) : Prop :=
  ∀ its own σ s r (Q : Bool → Shared → Prop) (E : Value → Shared → Prop), Rel C its own σ s → d σ = some r → (∀ s', Ext s s' → Q r s') → wpAny (model prog w) C.A (allTrue op es C.env) Q E s
theorem sbs_and_nil : SBs prog w C .And [] (bAnd []) := by
  intro its own σ s res Q E R hd h
  cases hd
  exact wpAny_allTrue_And_nil (h s Ext.rf)
theorem sbs_and {e : Expr} {es : List Expr} {d : DB} {ds : List DB} (he : SB prog w C e d) (hs : SBs prog w C .And es (bAnd ds)) : SBs prog w C .And (e :: es) (bAnd (d :: ds)) := by
  intro its own σ s res Q E R hd h
  rw [bAnd] at hd
  refine wpAny_allTrue_And_cons ?_
  split at hd
  · rename_i hc
    exact he _ _ _ _ _ _ _ R hc fun s₁ e₁ => by rw [if_pos rfl]; exact hs _ _ _ _ _ _ _ (R.grow e₁) hd fun s₂ e₂ => h s₂ (e₁.trans e₂)
  · rename_i hc
    cases hd
    exact he _ _ _ _ _ _ _ R hc fun s₁ e₁ => by rw [if_neg Bool.false_ne_true]; exact h s₁ e₁
  · cases hd
theorem sbs_or_nil : SBs prog w C .Or [] (bOr []) := by
  intro its own σ s res Q E R hd h
  cases hd
  exact wpAny_allTrue_Or_nil (h s Ext.rf)
theorem sbs_or {e : Expr} {es : List Expr} {d : DB} {ds : List DB} (he : SB prog w C e d) (hs : SBs prog w C .Or es (bOr ds)) : SBs prog w C .Or (e :: es) (bOr (d :: ds)) := by
  intro its own σ s res Q E R hd h
  rw [bOr] at hd
  refine wpAny_allTrue_Or_cons ?_
  split at hd
  · rename_i hc
    cases hd
    exact he _ _ _ _ _ _ _ R hc fun s₁ e₁ => by rw [if_pos rfl]; exact h s₁ e₁
  · rename_i hc
    exact he _ _ _ _ _ _ _ R hc fun s₁ e₁ => by rw [if_neg Bool.false_ne_true]; exact hs _ _ _ _ _ _ _ (R.grow e₁) hd fun s₂ e₂ => h s₂ (e₁.trans e₂)
  · cases hd
theorem sb_op {op : BoolOp} {es : List Expr} {pos : Pos} {d : DB} (h : SBs prog w C op es d) : SB prog w C (.BoolOp op es pos) d := by
  intro its own σ s res Q E R hd h'
  exact wpAny_isTrue_BoolOp (h _ _ _ _ _ _ _ R hd h')
theorem bChain_some {a b c : DE} {σ : St} {r : Bool} (h : bChain a b c σ = some r) : ∃ x y, a σ = some (.int x) ∧ b σ = some (.int y) ∧ ((x ≤ y ∧ ∃ z, c σ = some (.int z) ∧ r = decide (y ≤ z)) ∨ (¬ x ≤ y ∧ r = false)) := by
  unfold bChain at h
  split at h
  · rename_i x ex
    split at h
    · rename_i y ey
      split at h
      · rename_i hv
        unfold vLe at hv
        split at hv
        · rename_i x' y'
          have hxy : x' ≤ y' := by simpa using hv
          split at h
          · rename_i z ez
            unfold vLe at h
            split at h
            · rename_i y'' z' e1
              cases e1
              cases h
              exact ⟨x', y', ex, ey, .inl ⟨hxy, z', ez, rfl⟩⟩
            · cases h
          · cases h
        · cases hv
      · rename_i hv
        cases h
        unfold vLe at hv
        split at hv
        · rename_i x' y'
          exact ⟨x', y', ex, ey, .inr ⟨by simpa using hv, rfl⟩⟩
        · cases hv
      · cases h
    · cases h
  · cases h
theorem wpAny_rel {M : Model} {A : Around} {E : Value → Shared → Prop} {s : Shared} {vs ks : List Value} {Q : Unit → Shared → Prop} (h : Q () s) : wpAny M A (release vs ks) Q E s := by
  exact wpAny_release h
theorem tc2 {pos : Pos} {a : Value} {o1 o2 : CmpOp} {r1 r2 : Sem Value} : testChain pos a [o1, o2] [r1, r2] = (do
    let rv ← holding [a] r1
    standAt pos
    let c ← holding [a, rv] (compareOp o1 a rv)
    release [a, rv] [c]
    if ← holding [c, rv] (truthy c) then testChain pos rv [o2] [r2] else pure false) := rfl
theorem tc1 {pos : Pos} {a : Value} {o1 : CmpOp} {r1 : Sem Value} : testChain pos a [o1] [r1] = (do
    let rv ← holding [a] r1
    standAt pos
    let c ← operate [a, rv] (compareOp o1 a rv)
    holding [c] (truthy c)) := rfl
theorem sb_chain {l m r : Expr} {pos : Pos} {dl dm dr : DE} (hl : SE prog w C l dl) (hm : SE prog w C m dm) (hr : SE prog w C r dr)
    (hk : lastMarks [CmpOp.LtE, CmpOp.LtE] [m, r] = false := by rfl) : SB prog w C (.Compare l [.LtE, .LtE] [m, r] pos) (bChain dl dm dr) := by
  intro its own σ s res Q E R hd h
  obtain ⟨x, y, ex, ey, hc⟩ := bChain_some hd
  refine isTrue_chain (hl _ _ _ _ _ _ _ R ex fun a s₁ e₁ ra => ?_) hk
  obtain ⟨t, rfl⟩ := ra.ofInt
  show wpAny _ _ (testChain pos (.int x t) [.LtE, .LtE] [eval m C.env, eval r C.env]) _ _ _
  rw [tc2]
  refine wpAny_bind (wpAny_holding (hm _ _ _ _ _ _ _ (R.grow e₁) ey fun b s₂ e₂ rb => ?_))
  obtain ⟨u, rfl⟩ := rb.ofInt
  refine wpAny_bind (wpAny_standAt (wpAny_bind (wpAny_holding (le_int (wpAny_bind (wpAny_rel (wpAny_bind (wpAny_holding (wpAny_truthy_bool ?_)))))))))
  rcases hc with ⟨hxy, z, ez, rfl⟩ | ⟨hxy, rfl⟩
  · rw [if_pos (by simpa using hxy)]
    rw [tc1]
    refine wpAny_bind (wpAny_holding (hr _ _ _ _ _ _ _ ((R.grow e₁).grow e₂) ez fun c s₃ e₃ rc => ?_))
    obtain ⟨v, rfl⟩ := rc.ofInt
    refine wpAny_bind (wpAny_standAt (wpAny_bind (wpAny_operate' (le_int (wpAny_holding (wpAny_truthy_bool ?_))))))
    exact h s₃ (e₁.trans (e₂.trans e₃))
  · rw [if_neg (by simpa using hxy)]
    exact wpAny_pure (h s₂ (e₁.trans e₂))
theorem se_ite {t a b : Expr} {pos : Pos} {dt : DB} {da db : DE} (ht : SB prog w C t dt) (ha : SE prog w C a da) (hb : SE prog w C b db) : SE prog w C (.IfExp t a b pos) (dIte dt da db) := by
  intro its own σ s res Q E R hd h
  unfold dIte at hd
  refine wpAny_IfExp ?_
  split at hd
  · rename_i hc
    exact ht _ _ _ _ _ _ _ R hc fun s₁ e₁ => by rw [if_pos rfl]; exact ha _ _ _ _ _ _ _ (R.grow e₁) hd fun v s₂ e₂ q => h v s₂ (e₁.trans e₂) q
  · rename_i hc
    exact ht _ _ _ _ _ _ _ R hc fun s₁ e₁ => by rw [if_neg Bool.false_ne_true]; exact hb _ _ _ _ _ _ _ (R.grow e₁) hd fun v s₂ e₂ q => h v s₂ (e₁.trans e₂) q
  · cases hd

/-! ### displays -/
theorem ses_nil : SEs prog w C [] (dAll []) := by
  intro pos its own σ s r Q E R hd h
  cases hd
  exact args_nil (h [] s Ext.rf RdAll.nil)
theorem ses_cons {e : Expr} {es : List Expr} {d : DE} {ds : List DE} (he : SE prog w C e d) (hs : SEs prog w C es (dAll ds))
    (hx : starEach (e :: es) C.env = (false, eval e C.env) :: starEach es C.env := by rfl) : SEs prog w C (e :: es) (dAll (d :: ds)) := by
  intro pos its own σ s r Q E R hd h
  rw [dAll] at hd
  split at hd
  · rename_i x ex
    split at hd
    · rename_i xs exs
      cases hd
      refine args_cons (he _ _ _ _ _ _ _ R ex fun v s₁ e₁ ra => hs _ _ _ _ _ _ _ _ (R.grow e₁) exs fun vs s₂ e₂ rs => ?_) hx
      exact h _ _ (e₁.trans e₂) (RdAll.cons (ra.grow e₂.keep) rs)
    · cases hd
  · cases hd
theorem dAll_len : ∀ {ds : List DE} {σ : St} {r : List PyData}, dAll ds σ = some r → r.length = ds.length
  | [], _, _, h => by cases h; rfl
  | d :: ds, σ, r, h => by
    rw [dAll] at h
    split at h
    · split at h
      · rename_i xs exs
        cases h
        simp [dAll_len exs]
      · cases h
    · cases h
theorem se_tuple {es : List Expr} {k : Nat} {pos : Pos} {ds : List DE} (hs : SEs prog w C es (dAll ds)) (hl : ds.length ≤ 1000 := by decide) : SE prog w C (.Tuple es k pos) (dTup ds) := by
  intro its own σ s r Q E R hd h
  unfold dTup at hd
  obtain ⟨xs, hx, rfl⟩ := Option.map_eq_some_iff.mp hd
  refine Tuple_ (hs _ _ _ _ _ _ _ _ R hx fun vs s₁ e₁ rs => ?_)
  have := rs.length
  have := dAll_len hx
  refine wpAny_newTuple (h _ _ (e₁.trans (Ext.push _)) (rd_newT (R.grow e₁).alloc rs)) (Nat.le_trans (m := 1000) (by omega) (by decide))
theorem se_list {es : List Expr} {pos : Pos} {ds : List DE} (hs : SEs prog w C es (dAll ds)) (hl : ds.length ≤ 1000 := by decide) : SE prog w C (.List es pos) (dLst ds) := by
  intro its own σ s r Q E R hd h
  unfold dLst at hd
  obtain ⟨xs, hx, rfl⟩ := Option.map_eq_some_iff.mp hd
  refine List_ (hs _ _ _ _ _ _ _ _ R hx fun vs s₁ e₁ rs => ?_)
  have := rs.length
  have := dAll_len hx
  refine wpAny_newList (h _ _ (e₁.trans (Ext.push _)) (rd_new (R.grow e₁).alloc rs)) (Nat.le_trans (m := 1000) (by omega) (by decide))
end
end Mine
end
section
namespace Mine
open PySem PySem.W PySem.Calls PyProof.Rows
open PySem.SeqAt (shaped)
section
variable {prog : Program} {w : World} {C : Cx} {n : Nat} {top : Heap → Prop}

theorem RdAll.at {X : List Addr} {h : Heap} : ∀ {vs : List Value} {xs : List PyData} {j : Nat} {d : PyData}, RdAll X h vs xs → xs[j]? = some d → ∃ v, vs[j]? = some v ∧ Rd X h v d
  | [], xs, j, d, a, e => by
    have := a.length
    cases xs with
    | nil => simp at e
    | cons => simp at this
  | v :: vs, xs, j, d, a, e => by
    cases xs with
    | nil => simp at e
    | cons x xs =>
      cases j with
      | zero => simp at e; subst e; exact ⟨v, by simp, a.inv.1⟩
      | succ j =>
        obtain ⟨u, hu, q⟩ := RdAll.at a.inv.2 (by simpa using e)
        exact ⟨u, by simpa using hu, q⟩
theorem idxOf_some {n : Nat} {k : Int} {j : Nat} (h : idxOf n k = some j) : n ≤ listLine ∧ ((0 ≤ k ∧ k < n ∧ j = k.toNat) ∨ (k < 0 ∧ 0 ≤ k + n ∧ j = (k + n).toNat)) := by
  unfold idxOf at h
  split at h
  · rename_i hl
    refine ⟨hl, ?_⟩
    split at h
    · split at h
      · cases h; exact .inl ⟨by assumption, by assumption, rfl⟩
      · cases h
    · split at h
      · cases h; exact .inr ⟨by omega, by assumption, rfl⟩
      · cases h
  · cases h
theorem vItem_some {c i r : PyData} (h : vItem c i = some r) : ∃ xs k j, (c = .list xs ∨ c = .tuple xs) ∧ i = .int k ∧ idxOf xs.length k = some j ∧ xs[j]? = some r := by
  unfold vItem at h
  split at h
  · split at h
    · exact ⟨_, _, _, .inl rfl, rfl, by assumption, h⟩
    · cases h
  · split at h
    · exact ⟨_, _, _, .inr rfl, rfl, by assumption, h⟩
    · cases h
  · cases h
theorem get_item {X : List Addr} {A : Around} {s : Shared} {o i : Value} {c k r : PyData} {Q : Value → Shared → Prop} {E : Value → Shared → Prop} (ro : Rd X s.heap o c) (ri : Rd X s.heap i k) (e : vItem c k = some r)
    (h : ∀ v, Rd X s.heap v r → Q v s) : ∃ T id, s.TypeIs o T ∧ typeLookup (.type T) "__getitem__" = pure (some (.builtin id)) ∧ wpAny (model prog w) A (getItem o i) Q E s := by
  obtain ⟨xs, k, j, hc, rfl, hj, hr⟩ := vItem_some e
  obtain ⟨hl, hj⟩ := idxOf_some hj
  have hb : (listLine : Int) < 2 ^ 63 := by decide
  obtain ⟨u, rfl⟩ := ri.ofInt
  rcases hc with rfl | rfl
  · obtain ⟨a, ob, ws, m, rfl, _, g, hc, hd, q⟩ := ro.ofList
    have isl : s.heap.IsList a ws := ⟨ob, g, hc, m, hd⟩
    obtain ⟨v, hv, rv⟩ := q.at hr
    have ls := q.length
    rw [Array.length_toList] at ls
    refine ⟨"list", "list.__getitem__", isl.typeIs, slot_list_getitem.lookup, ?_⟩
    rcases hj with ⟨h0, h1, rfl⟩ | ⟨h0, h1, rfl⟩
    · exact wpAny_getItem_list isl h0 (by omega) (by simpa using hv) (h v rv)
    · exact wpAny_getItem_list_neg isl h0 (by omega) (by omega) (by rw [ls]; simpa using hv) (h v rv)
  · obtain ⟨a, ob, ws, m, rfl, _, g, hc, hd, q⟩ := ro.ofTuple
    have ist : IsTup s.heap a ws := ⟨ob, g, hc, m, hd⟩
    obtain ⟨v, hv, rv⟩ := q.at hr
    have ls := q.length
    rw [Array.length_toList] at ls
    refine ⟨"tuple", "tuple.__getitem__", ist.typeIs, slot_tuple_getitem.lookup, ?_⟩
    have hjl : j < xs.length := (List.getElem?_eq_some_iff.mp hr).1
    refine getItem_tuple ist ?_ ?_ (j := j) ?_ (by simpa using hv) (h v rv)
    · rcases hj with ⟨h0, h1, rfl⟩ | ⟨h0, h1, rfl⟩ <;> omega
    · rcases hj with ⟨h0, h1, rfl⟩ | ⟨h0, h1, rfl⟩ <;> omega
    · unfold seqIndex?
      rw [ls]
      rcases hj with ⟨h0, h1, rfl⟩ | ⟨h0, h1, rfl⟩
      · simp only [show ¬ k < 0 by omega, if_false]
        rw [if_pos (by simp; omega)]
      · simp only [h0, if_true]
        rw [if_pos (by simp; omega)]
theorem se_item {v i : Expr} {pos : Pos} {dv di : DE} (hv : SE prog w C v dv) (hi : SE prog w C i di) (hs : ∀ o k, subscripted i false o k = operate [o, k] (getItem o k) := by intro _ _; rfl) :
    SE prog w C (.Subscript v i pos) (d2 vItem dv di) := by
  intro its own σ s r Q E R hd h
  obtain ⟨x, y, ex, ey, e⟩ := d2_some hd
  refine Subscript_ (hv _ _ _ _ _ _ _ R ex fun a s₁ e₁ ra => hi _ _ _ _ _ _ _ (R.grow e₁) ey fun b s₂ e₂ rb => ?_)
  obtain ⟨T, id, h1, h2, h3⟩ := get_item (prog := prog) (w := w) (A := C.A) (Q := Q) (E := E) (ra.grow e₂.keep) rb e fun u q => h u s₂ (e₁.trans e₂) q
  exact tail_any h1 h2 h3 (hs _ _)

/-! ### slices -/
theorem clamp_up (items : Array Value) (k : Int) : slicePick items none (some k) none = (items.toList.take (clamp items.size k)).toArray := by
  unfold clamp
  by_cases h : k < 0
  · have e : k = -((-k).toNat : Int) := by omega
    rw [e, slicePick_butLast items _ (by omega)]
    congr 2
    split <;> split <;> omega
  · have e : k = (k.toNat : Int) := by omega
    rw [e, slicePick_upto']
    rw [if_neg (by omega)]
    split
    · rw [List.take_of_length_le (by simp; omega), List.take_of_length_le (by simp)]
    · rw [Int.toNat_natCast]
theorem clamp_from (items : Array Value) (k : Int) : slicePick items (some k) none none = (items.toList.drop (clamp items.size k)).toArray := by
  unfold clamp
  by_cases h : k < 0
  · have e : k = -((-k).toNat : Int) := by omega
    rw [e, slicePick_last items _ (by omega)]
    congr 2
    split <;> split <;> omega
  · have e : k = (k.toNat : Int) := by omega
    rw [e, slicePick_from']
    rw [if_neg (by omega)]
    split
    · rw [List.drop_eq_nil_of_le (by simp; omega), List.drop_eq_nil_of_le (by simp)]
    · rw [Int.toNat_natCast]
theorem RdAll.take {X : List Addr} {h : Heap} : ∀ {vs : List Value} {xs : List PyData} (k : Nat), RdAll X h vs xs → RdAll X h (vs.take k) (xs.take k)
  | _, _, 0, _ => by simpa using RdAll.nil
  | [], xs, k + 1, a => by
    have := a.length
    cases xs with
    | nil => simpa using RdAll.nil
    | cons => simp at this
  | v :: vs, xs, k + 1, a => by
    cases xs with
    | nil => have := a.length; simp at this
    | cons x xs => exact RdAll.cons a.inv.1 (RdAll.take k a.inv.2)
theorem RdAll.drop {X : List Addr} {h : Heap} : ∀ {vs : List Value} {xs : List PyData} (k : Nat), RdAll X h vs xs → RdAll X h (vs.drop k) (xs.drop k)
  | _, _, 0, a => by simpa using a
  | [], xs, k + 1, a => by
    have := a.length
    cases xs with
    | nil => simpa using RdAll.nil
    | cons => simp at this
  | v :: vs, xs, k + 1, a => by
    cases xs with
    | nil => have := a.length; simp at this
    | cons x xs => exact RdAll.drop k a.inv.2
theorem slice_tail {X : List Addr} {A : Around} {s : Shared} {E : Value → Shared → Prop} {v : Expr} {lo hi : Option Expr} {p : Pos} {a : Addr} {ws : Array Value} {vl vu : Value} {l u : Option Int} {Q : Value → Shared → Prop}
    (al : ∀ p ∈ X, ∃ o, s.heap.get? p = some o) (isl : s.heap.IsList a ws) (hsz : ws.size ≤ sizeLine) (pl : IsPart vl l) (pu : IsPart vu u)
    (h : ∀ s', Ext s s' → s'.heap.IsList (s.heap.objs.size + 1) (slicePick ws l u none) → s.heap.objs.size + 1 ∉ X → Q (.ref (s.heap.objs.size + 1)) s') :
    wpAny (model prog w) A (subscriptTail v (.Slice lo hi none p) (.ref a) (.ref s.heap.objs.size)) Q E { s with heap := s.heap.push { cls := .type "slice", data := .fields #[vl, vu, .none] } } := by
  refine tail_any (s := { s with heap := s.heap.push { cls := .type "slice", data := .fields #[vl, vu, .none] } }) (isl.push _).typeIs slot_list_getitem.lookup
    (wpAny_getItem_list_slice (isl.push _) (Heap.IsSliceOf.new ..) pl pu .none (by simp) ?_ hsz) (ops := [.ref s.heap.objs.size, .ref a]) rfl
  rw [Heap.size_push]
  refine h _ ((Ext.push _).trans (Ext.push _)) ⟨_, by rw [← Heap.size_push]; exact Heap.get?_push_size _ rfl, rfl, 0, rfl⟩ fun m => ?_
  obtain ⟨o, g⟩ := al _ m
  have := Heap.lt_size g
  exact absurd this (Nat.not_lt.mpr (Nat.le_succ _))
theorem se_sliceTo {v u : Expr} {p pos : Pos} {dv du : DE} (hv : SE prog w C v dv) (hu : SE prog w C u du) :
    SE prog w C (.Subscript v (.Slice none (some u) none p) pos) (d2 vSliceTo dv du) := by
  intro its own σ s r Q E R hd h
  obtain ⟨x, y, ex, ey, e⟩ := d2_some hd
  unfold vSliceTo at e
  split at e
  · split at e
    · rename_i hl
      cases e
      refine Subscript_ (hv _ _ _ _ _ _ _ R ex fun a s₁ e₁ ra => ?_)
      refine wpAny_Slice (wpAny_pure (hu _ _ _ _ _ _ _ (R.grow e₁) ey fun b s₂ e₂ rb => wpAny_pure ?_))
      obtain ⟨t, rfl⟩ := rb.ofInt
      obtain ⟨l, ob, ws, m, rfl, _, g, hc, hd, q⟩ := (ra.grow e₂.keep).ofList
      have ls := q.length
      rw [Array.length_toList] at ls
      refine slice_tail ((R.grow e₁).grow e₂).alloc ⟨ob, g, hc, m, hd⟩ (by rw [ls]; exact listLine_le hl) .none (.int _ _) fun s' e' isl nx => ?_
      obtain ⟨o', g', c', n', d'⟩ := isl
      refine h _ _ (e₁.trans (e₂.trans e')) (Rd.list nx g' c' d' ?_)
      rw [clamp_up, ls]
      simpa using (q.take _).grow e'.keep
    · cases e
  · cases e
theorem se_sliceFrom {v u : Expr} {p pos : Pos} {dv du : DE} (hv : SE prog w C v dv) (hu : SE prog w C u du) :
    SE prog w C (.Subscript v (.Slice (some u) none none p) pos) (d2 vSliceFrom dv du) := by
  intro its own σ s r Q E R hd h
  obtain ⟨x, y, ex, ey, e⟩ := d2_some hd
  unfold vSliceFrom at e
  split at e
  · split at e
    · rename_i hl
      cases e
      refine Subscript_ (hv _ _ _ _ _ _ _ R ex fun a s₁ e₁ ra => ?_)
      refine wpAny_Slice (hu _ _ _ _ _ _ _ (R.grow e₁) ey fun b s₂ e₂ rb => wpAny_pure (wpAny_pure ?_))
      obtain ⟨t, rfl⟩ := rb.ofInt
      obtain ⟨l, ob, ws, m, rfl, _, g, hc, hd, q⟩ := (ra.grow e₂.keep).ofList
      have ls := q.length
      rw [Array.length_toList] at ls
      refine slice_tail ((R.grow e₁).grow e₂).alloc ⟨ob, g, hc, m, hd⟩ (by rw [ls]; exact listLine_le hl) (.int _ _) .none fun s' e' isl nx => ?_
      obtain ⟨o', g', c', n', d'⟩ := isl
      refine h _ _ (e₁.trans (e₂.trans e')) (Rd.list nx g' c' d' ?_)
      rw [clamp_from, ls]
      simpa using (q.drop _).grow e'.keep
    · cases e
  · cases e
end
end Mine
end
section
namespace Mine
open PySem PySem.W PySem.Calls PyProof.Rows
open PySem.SeqAt (shaped)
section
variable {prog : Program} {w : World} {C : Cx} {n : Nat} {top : Heap → Prop}

/-! ### global names -/
abbrev Cx.g0 (C : Cx) : Heap := hideAll C.s0.heap C.X0
theorem name_glob (ok : C.Ok n top) {A : Around} {its own σ s} {x : Str} {pos : Pos} {v : Value} {Q : Value → Shared → Prop} {E : Value → Shared → Prop} (R : Rel C its own σ s) (hx : C.env.kindOf x = some .globalImplicit)
    (g : GV x v C.g0) (h : Q v s) (hd : (x == ("__debug__" : Str)) = false := by decide) : wpAny (model prog w) A (eval (.Name x pos) C.env) Q E s := by
  refine Name_function_global ok.kind hx ?_ hd
  rcases g with ⟨mg, a, b⟩ | ⟨mg, mb, a, b, c, d⟩
  · exact loadGlobal_global (by rw [ok.glob]; exact a.keeps R.seen') b h
  · exact loadGlobal_builtin (by rw [ok.glob]; exact a.keeps R.seen') b (by rw [ok.bi]; exact c.keeps R.seen') d h
/-- a module's constant -/
noncomputable def Const (top : Heap → Prop) (x : Str) (d : PyData) : Prop := ∀ g, top g → ∃ v as, GV x v g ∧ Reads g v d as
theorem se_glob (ok : C.Ok n top) {x : Str} {pos : Pos} {d : PyData} (c : Const top x d) (hx : C.env.kindOf x = some .globalImplicit) (hd : (x == ("__debug__" : Str)) = false := by decide) : SE prog w C (.Name x pos) (dLit d) := by
  intro its own σ s r Q E R hr h
  cases hr
  obtain ⟨v, as, g, q⟩ := c _ ok.top
  exact name_glob ok R hx g (h v s Ext.rf ⟨as, PyProof.Rows.Reads.keeps R.seen q⟩) hd
/-- a global name that holds a given value (a builtin, a type, a function) -/
noncomputable def Glb (top : Heap → Prop) (x : Str) (v : Value) : Prop := ∀ g, top g → GV x v g

/-! ### calls of builtins -/
noncomputable def Fn1 (prog : Program) (w : World) (A : Around) (fv : Value) (f : PyData → Option PyData) : Prop :=
  ∀ X (s : Shared) a x r (Q : Value → Shared → Prop) (E : Value → Shared → Prop), (∀ p ∈ X, ∃ o, s.heap.get? p = some o) → Rd X s.heap a x → f x = some r →
    (∀ v s', Ext s s' → Rd X s'.heap v r → Q v s') → wpAny (model prog w) A (call fv [a]) Q E s
theorem args1 {its own σ s} {e : Expr} {d : DE} {x : PyData} {pos : Pos} {fv : Value} {Q : Value → Shared → Prop} {E : Value → Shared → Prop} (hf : (∃ id, fv = .builtin id) ∨ ∃ T, fv = .type T) (he : SE prog w C e d) (R : Rel C its own σ s) (ex : d σ = some x)
    (h : ∀ v s', Ext s s' → Rd (C.X its own) s'.heap v x → wpAny (model prog w) C.A (call fv [v]) Q E s')
    (hx : starEach [e] C.env = (false, eval e C.env) :: starEach [] C.env) : wpAny (model prog w) C.A (callWith pos fv [] (backTo pos (starEach [e] C.env)) []) Q E s := by
  rcases hf with ⟨id, rfl⟩ | ⟨T, rfl⟩
  · exact callWith_builtin1 (args_cons (he _ _ _ _ _ _ _ R ex fun v s₁ e₁ ra => args_nil (h v s₁ e₁ ra)) hx) hx
  · exact callWith_type1 (args_cons (he _ _ _ _ _ _ _ R ex fun v s₁ e₁ ra => args_nil (h v s₁ e₁ ra)) hx) hx
theorem se_call1 (ok : C.Ok n top) {x : Str} {e : Expr} {p pos : Pos} {d : DE} {fv : Value} {f : PyData → Option PyData} (g : Glb top x fv) (hf : (∃ id, fv = .builtin id) ∨ ∃ T, fv = .type T) (F : Fn1 prog w C.A fv f)
    (he : SE prog w C e d) (hk : C.env.kindOf x = some .globalImplicit) (hd : (x == ("__debug__" : Str)) = false := by decide)
    (hx : starEach [e] C.env = (false, eval e C.env) :: starEach [] C.env := by rfl) : SE prog w C (.Call (.Name x p) [e] [] pos) (d1 f d) := by
  intro its own σ s r Q E R hr h
  obtain ⟨y, ey, e'⟩ := d1_some hr
  refine wpAny_Call_NameR (name_glob ok R hk (g _ ok.top) ?_ hd)
  refine args1 hf he R ey (fun v s₁ e₁ ra => ?_) hx
  exact F _ _ _ _ _ _ _ (R.grow e₁).alloc ra e' fun u s₂ e₂ q => h u s₂ (e₁.trans e₂) q
theorem fn_len {A : Around} : Fn1 prog w A (.builtin "len") vLen := by
  intro X s a x r Q E al ra e h
  have hb : (listLine : Int) < 2 ^ 63 := by decide
  unfold vLen at e
  split at e
  · split at e
    · cases e
      obtain ⟨l, ob, ws, m, rfl, _, g, hc, hd, q⟩ := ra.ofList
      have ls := q.length
      rw [Array.length_toList] at ls
      refine len_list ⟨ob, g, hc, m, hd⟩ (by omega) ?_
      rw [ls]
      exact h _ _ (Ext.tok _) (Rd.int _ _)
    · cases e
  · split at e
    · cases e
      obtain ⟨l, ob, ws, m, rfl, _, g, hc, hd, q⟩ := ra.ofTuple
      have ls := q.length
      rw [Array.length_toList] at ls
      refine len_tuple ⟨ob, g, hc, m, hd⟩ (by omega) ?_
      rw [ls]
      exact h _ _ (Ext.tok _) (Rd.int _ _)
    · cases e
  · cases e
theorem fn_list {A : Around} : Fn1 prog w A (.type "list") vListOf := by
  intro X s a x r Q E al ra e h
  unfold vListOf at e
  split at e
  · split at e
    · rename_i hl
      cases e
      obtain ⟨l, ob, ws, m, rfl, _, g, hc, hd, q⟩ := ra.ofList
      have ls := q.length
      rw [Array.length_toList] at ls
      refine call_list_seq l (.inl rfl) g hc hd (fun h' c' k e => ?_) (by rw [ls]; exact listLine_le (by assumption))
      exact h _ _ ⟨⟨_, _, rfl⟩, k⟩ (Rd.list (new_off al) e rfl rfl (q.grow k))
    · cases e
  · cases e
theorem intsOf_some : ∀ {xs : List PyData} {l : List Int}, intsOf xs = some l → xs = l.map .int
  | [], l, h => by cases h; rfl
  | .int i :: r, l, h => by
    rw [intsOf] at h
    obtain ⟨l', h', rfl⟩ := Option.map_eq_some_iff.mp h
    simp [intsOf_some h']
  | .none :: _, _, h | .bool _ :: _, _, h | .str _ :: _, _, h | .list _ :: _, _, h | .tuple _ :: _, _, h | .dict _ :: _, _, h => by cases h
theorem RdAll.ints {X : List Addr} {h : Heap} : ∀ {vs : List Value} {l : List Int}, RdAll X h vs (l.map .int) → IntsAre vs l
  | [], l, a => by
    have := a.length
    cases l with
    | nil => exact .nil
    | cons => simp at this
  | v :: vs, l, a => by
    cases l with
    | nil => have := a.length; simp at this
    | cons i l =>
      obtain ⟨t, rfl⟩ := a.inv.1.ofInt
      exact .cons i t (RdAll.ints a.inv.2)
theorem ints_rd {X : List Addr} {h : Heap} : ∀ {vs : List Value} {l : List Int}, IntsAre vs l → RdAll X h vs (l.map .int)
  | _, _, .nil => RdAll.nil
  | _, _, .cons i t r => RdAll.cons (Rd.int i t) (ints_rd r)
theorem perm_sorted_eq : ∀ {a b : List Int}, a.Perm b → a.Pairwise (· ≤ ·) → b.Pairwise (· ≤ ·) → a = b
  | [], b, p, _, _ => (List.Perm.nil_eq p)
  | x :: a, [], p, _, _ => by have := p.length_eq; simp at this
  | x :: a, y :: b, p, ha, hb => by
    have hx : x = y := by
      have h1 : x ∈ y :: b := p.mem_iff.mp (.head _)
      have h2 : y ∈ x :: a := p.mem_iff.mpr (.head _)
      rcases List.mem_cons.mp h1 with e | h1
      · exact e
      · rcases List.mem_cons.mp h2 with e | h2
        · exact e.symm
        · exact Int.le_antisymm ((List.pairwise_cons.mp ha).1 y h2) ((List.pairwise_cons.mp hb).1 x h1)
    subst hx
    rw [perm_sorted_eq (List.perm_cons x |>.mp p) (List.pairwise_cons.mp ha).2 (List.pairwise_cons.mp hb).2]
theorem sortI_perm (l : List Int) : (sortI l).Perm l := List.mergeSort_perm l _
theorem sortI_sorted (l : List Int) : (sortI l).Pairwise (· ≤ ·) := by
  have := List.pairwise_mergeSort (le := fun a b : Int => decide (a ≤ b)) (by simp; intro a b c; omega) (by simp; intro a b; omega) l
  simpa [sortI] using this
theorem fn_sorted {A : Around} : Fn1 prog w A (.builtin "sorted") vSorted := by
  intro X s a x r Q E al ra e h
  unfold vSorted at e
  split at e
  · split at e
    · rename_i xs l hi
      split at e
      · rename_i hlt
        cases e
        rw [intsOf_some hi] at ra
        obtain ⟨ad, ob, ws, m, rfl, _, g, hc, hd, q⟩ := ra.ofList
        have ls := q.length
        refine sorted_ints (vs := ws.toList) (by simpa using ⟨ob, g, hc, m, hd⟩) q.ints (by rw [ls]; simpa using hlt) fun out ns' a1 a2 a3 => ?_
        obtain ⟨e, he⟩ := sortedAll_at s.heap ws.toList out
        have ee : ns' = sortI l := perm_sorted_eq (a2.trans (sortI_perm l).symm) a3 (sortI_sorted l)
        subst ee
        have k : Sub s.heap (sortedAll s.heap ws.toList out) := fun _ _ => sortedAll_old
        refine h _ _ ⟨⟨_, _, rfl⟩, k⟩ (Rd.list (fun m => ?_) he rfl rfl (ints_rd a1))
        obtain ⟨o, g⟩ := al _ m
        exact absurd (Heap.lt_size g) (Nat.not_lt.mpr (Nat.le_succ _))
      · cases e
    · cases e
  · cases e

/-! ### type(e) is T -/
theorem rd_type {X : List Addr} {s : Shared} {v : Value} {d : PyData} {T : String} (r : Rd X s.heap v d) (h : tyName d = some T) : s.TypeIs v T ∧ T ≠ "builtin_function_or_method" := by
  unfold tyName at h
  split at h
  · cases h; obtain ⟨t, rfl⟩ := r.ofInt; exact ⟨typeIs_int s _ _, by decide⟩
  · cases h; obtain ⟨t, rfl⟩ := r.ofStr; exact ⟨typeIs_str s _ _, by decide⟩
  · cases h; obtain ⟨l, ob, ws, m, rfl, _, g, hc, hd, q⟩ := r.ofList; exact ⟨⟨ob, g, hc⟩, by decide⟩
  · cases h; obtain ⟨l, ob, ws, m, rfl, _, g, hc, hd, q⟩ := r.ofTuple; exact ⟨⟨ob, g, hc⟩, by decide⟩
  · cases h
theorem bType_some {T : String} {e : DE} {σ : St} {r : Bool} (h : bType T e σ = some r) : ∃ d t, e σ = some d ∧ tyName d = some t ∧ r = decide (t = T) := by
  unfold bType at h
  split at h
  · rename_i d hd
    obtain ⟨t, ht, rfl⟩ := Option.map_eq_some_iff.mp h
    exact ⟨d, t, hd, ht, rfl⟩
  · cases h
theorem sb_type (ok : C.Ok n top) {e : Expr} {p1 p2 p3 pos : Pos} {d : DE} {T : String} {Tn : Str} (g : Glb top "type" (.type "type")) (gT : Glb top Tn (.type T)) (he : SE prog w C e d)
    (hk : C.env.kindOf "type" = some .globalImplicit) (hkT : C.env.kindOf Tn = some .globalImplicit) (hdT : (Tn == ("__debug__" : Str)) = false := by decide)
    (hx : starEach [e] C.env = (false, eval e C.env) :: starEach [] C.env := by rfl) : SB prog w C (.Compare (.Call (.Name "type" p1) [e] [] p2) [.Is] [.Name Tn p3] pos) (bType T d) := by
  intro its own σ s r Q E R hr h
  obtain ⟨y, t, ey, ht, rfl⟩ := bType_some hr
  refine wpAny_isTrue_Compare1 (wpAny_Call_NameR (name_glob ok R hk (g _ ok.top) (args1 (.inr ⟨_, rfl⟩) he R ey (fun v s₁ e₁ ra => ?_) hx) (by decide))) rfl
  obtain ⟨h1, h2⟩ := rd_type ra ht
  refine call_type_of h1 (by simpa using h2) ?_
  refine name_glob ok (R.grow e₁) hkT (gT _ ok.top) ?_ hdT
  refine wpAny_is_plain rfl (wpAny_truthy_bool ?_)
  have : (Value.type t == Value.type T) = decide (t = T) := by
    by_cases e : t = T
    · subst e; simp
    · simp [e]
  rw [this]
  exact h _ e₁
end
end Mine
end
section
namespace Mine
open PySem PySem.W PySem.Calls PyProof.Rows
open PySem.SeqAt (shaped)

structure Chg (C : Cx) (own own' : List (Nat × Addr)) (s s' : Shared) : Prop where
  same : ∃ h tk, s' = { s with heap := h, toks := tk }
  pres : ∀ b o, s.heap.get? b = some o → b ∉ C.priv → b ∉ own.map (·.2) → s'.heap.get? b = some o
  alive : ∀ b o, s.heap.get? b = some o → ∃ o', s'.heap.get? b = some o'
  news : ∀ a ∈ own'.map (·.2), a ∈ own.map (·.2) ∨ s.heap.get? a = none
theorem Chg.rf {C : Cx} {own : List (Nat × Addr)} {s : Shared} : Chg C own own s s := ⟨⟨_, _, rfl⟩, fun _ _ e _ _ => e, fun _ o e => ⟨o, e⟩, fun _ h => .inl h⟩
theorem Chg.trans {C : Cx} {o1 o2 o3 : List (Nat × Addr)} {a b c : Shared} (x : Chg C o1 o2 a b) (y : Chg C o2 o3 b c) : Chg C o1 o3 a c := by
  obtain ⟨⟨h, tk, rfl⟩, p, l, n⟩ := x
  obtain ⟨⟨h', tk', rfl⟩, p', l', n'⟩ := y
  refine ⟨⟨_, _, rfl⟩, fun b o e h1 h2 => p' b o (p b o e h1 h2) h1 fun m => ?_, fun b o e => ?_, fun q hq => ?_⟩
  · rcases n b m with z | z
    · exact h2 z
    · rw [e] at z; cases z
  · obtain ⟨o', e'⟩ := l b o e
    exact l' b o' e'
  · rcases n' q hq with z | z
    · exact n q z
    · refine .inr ?_
      cases hg : a.heap.get? q with
      | none => rfl
      | some o =>
        obtain ⟨o', e'⟩ := l q o hg
        rw [z] at e'; cases e'
theorem Chg.ext {C : Cx} {own : List (Nat × Addr)} {s s' : Shared} (e : Ext s s') : Chg C own own s s' := ⟨e.same, fun b o g _ _ => e.keep b o g, fun b o g => ⟨o, e.keep b o g⟩, fun _ h => .inl h⟩

noncomputable def OutIs (C : Cx) (its : List Addr) (own : List (Nat × Addr)) (s' : Shared) : Out → Flow → Prop
  | .next σ, .next => Rel C its own σ s'
  | .brk σ, .brk => Rel C its own σ s'
  | .cont σ, .cont => Rel C its own σ s'
  | .ret d, .ret v => Rd C.X0 s'.heap v d ∧ Ext C.s0 s'
  | _, _ => False

section
variable (prog : Program) (w : World)
noncomputable def SS (C : Cx) (st : Stmt) (D : DS) : Prop :=
  ∀ its own σ s o (Q : Flow → Shared → Prop) (E : Value → Shared → Prop), Rel C its own σ s → D σ = some o →
    (∀ f s' own', OutIs C its own' s' o f → Chg C own own' s s' → Q f s') → wpAny (model prog w) C.A (exec st C.env) Q E s
noncomputable def SSs (C : Cx) (sts : List Stmt) (D : DS) : Prop :=
  ∀ its own σ s o (Q : Flow → Shared → Prop) (E : Value → Shared → Prop), Rel C its own σ s → D σ = some o →
    (∀ f s' own', OutIs C its own' s' o f → Chg C own own' s s' → Q f s') → wpAny (model prog w) C.A (execs sts C.env) Q E s
end
section
variable {prog : Program} {w : World} {C : Cx} {n : Nat} {top : Heap → Prop}
theorem sss_nil : SSs prog w C [] (sSeq []) := by
  intro its own σ s o Q E R hd h
  cases hd
  exact wpAny_execs_nil (h _ _ _ R Chg.rf)
theorem OutIs.flow {its own s' o f} (h : OutIs C its own s' o f) : (∃ σ, o = .next σ ∧ f = .next ∧ Rel C its own σ s') ∨ ((∀ σ, o ≠ .next σ) ∧ f ≠ .next) := by
  unfold OutIs at h
  split at h
  · exact .inl ⟨_, rfl, rfl, h⟩
  · exact .inr ⟨fun _ => (by simp), by simp⟩
  · exact .inr ⟨fun _ => (by simp), by simp⟩
  · exact .inr ⟨fun _ => (by simp), by simp⟩
  · cases h
theorem sss_cons {st : Stmt} {rest : List Stmt} {d : DS} {ds : List DS} (h1 : SS prog w C st d) (h2 : SSs prog w C rest (sSeq ds)) : SSs prog w C (st :: rest) (sSeq (d :: ds)) := by
  intro its own σ s o Q E R hd h
  rw [sSeq] at hd
  refine wpAny_execs_cons ?_
  split at hd
  · rename_i σ' e
    refine h1 _ _ _ _ _ _ _ R e fun f s' own' ho hc => ?_
    cases f <;> first | exact ho.elim | skip
    exact h2 _ _ _ _ _ _ _ ho hd fun f s'' own'' ho' hc' => h f s'' own'' ho' (hc.trans hc')
  · rename_i o' hn e
    cases hd
    refine h1 _ _ _ _ _ _ _ R e fun f s' own' ho hc => ?_
    rcases ho.flow with ⟨σ', rfl, rfl, _⟩ | ⟨_, hf⟩
    · exact absurd rfl (hn σ')
    · cases f with
      | next => exact absurd rfl hf
      | brk => exact h _ _ _ ho hc
      | cont => exact h _ _ _ ho hc
      | ret v => exact h _ _ _ ho hc
  · cases hd
theorem ss_ret {e : Expr} {pos : Pos} {d : DE} (he : SE prog w C e d) : SS prog w C (.Return (some e) pos) (sRet d) := by
  intro its own σ s o Q E R hd h
  unfold sRet at hd
  obtain ⟨r, hr, rfl⟩ := Option.map_eq_some_iff.mp hd
  refine wpAny_Return_some (he _ _ _ _ _ _ _ R hr fun v s' e' q => h _ _ own ⟨q.less fun a ha => List.mem_append_left _ ha, R.ext.trans e'⟩ (Chg.ext e'))
theorem ss_brk {pos : Pos} : SS prog w C (.Break pos) sBrk := by
  intro its own σ s o Q E R hd h
  cases hd
  exact wpAny_Break (h _ _ _ R Chg.rf)
theorem ss_cont {pos : Pos} : SS prog w C (.Continue pos) sCont := by
  intro its own σ s o Q E R hd h
  cases hd
  exact wpAny_Continue (h _ _ _ R Chg.rf)
theorem ss_if {t : Expr} {a b : List Stmt} {pos : Pos} {dt : DB} {da db : DS} (ht : SB prog w C t dt) (ha : SSs prog w C a da) (hb : SSs prog w C b db) : SS prog w C (.If t a b pos) (sIf dt da db) := by
  intro its own σ s o Q E R hd h
  unfold sIf at hd
  refine wpAny_If ?_
  split at hd
  · rename_i hc
    exact ht _ _ _ _ _ _ _ R hc fun s₁ e₁ => by
      rw [if_pos rfl]
      exact ha _ _ _ _ _ _ _ (R.grow e₁) hd fun f s₂ own' ho hc => h f s₂ own' ho ((Chg.ext e₁).trans hc)
  · rename_i hc
    exact ht _ _ _ _ _ _ _ R hc fun s₁ e₁ => by
      rw [if_neg Bool.false_ne_true]
      exact hb _ _ _ _ _ _ _ (R.grow e₁) hd fun f s₂ own' ho hc => h f s₂ own' ho ((Chg.ext e₁).trans hc)
  · cases hd

/-! ### storing into a local -/
/-- what is stored at one private address, all else as it was -/
theorem hid_same {h h' : Heap} {a : Addr} {X : List Addr} (hs : Heap.SameBut a h h') (ha : a ∈ X) : Sub (hideAll h X) (hideAll h' X) :=
  hid_sub fun b o nb e => ⟨(hs.2 b fun q => nb (q ▸ ha)).trans e, nb⟩
noncomputable def storeOk (C : Cx) (x : Str) : Bool := match C.env.kindOf x with
  | some .local => true
  | some .cell => (match C.env.cells.lookup x with
    | some c => C.priv.contains c
    | none => false)
  | _ => false
theorem FunFrames_same {h h' base : Heap} {l : List Env} {a : Addr} {o' : Obj} (x : h.FunFrames base l) (hs : Heap.SameBut a h h') (g : h'.get? a = some o') (hd : ∀ vs, o'.data ≠ .fields vs) : h'.FunFrames base l := by
  induction l with
  | nil => trivial
  | cons env r ih =>
    obtain ⟨h1, ⟨L, o, h2, h3, h4, h5⟩, h6⟩ := x
    refine ⟨h1, ?_, ih h6⟩
    by_cases e : L = a
    · subst e; exact ⟨L, o', h2, h3, g, hd⟩
    · exact ⟨L, o, h2, h3, (hs.2 L e).trans h4, h5⟩
theorem set_at {σ : St} {i j : Nat} {sl sl' : Slot} (h : (σ.set i sl)[j]? = some sl') : (j = i ∧ sl' = sl) ∨ (j ≠ i ∧ σ[j]? = some sl') := by
  rw [List.getElem?_set] at h
  split at h
  · rename_i e
    split at h
    · cases h; exact .inl ⟨e.symm, rfl⟩
    · cases h
  · rename_i e; exact .inr ⟨fun q => e q.symm, h⟩
theorem nodup_at {l : List Str} {i j : Nat} {x : Str} (nd : l.Nodup) (h1 : l[i]? = some x) (h2 : l[j]? = some x) : i = j := by
  obtain ⟨h1', e1⟩ := List.getElem?_eq_some_iff.mp h1
  obtain ⟨h2', e2⟩ := List.getElem?_eq_some_iff.mp h2
  rw [List.Nodup, List.pairwise_iff_getElem] at nd
  rcases Nat.lt_trichotomy i j with q | q | q
  · exact absurd (e1.trans e2.symm) (nd i j h1' h2' q)
  · exact q
  · exact absurd (e2.trans e1.symm) (nd j i h2' h1' q)
theorem mem_lookup : ∀ {l : List (Str × Addr)} {x : Str} {c : Addr}, l.lookup x = some c → (x, c) ∈ l
  | (k, v) :: r, x, c, h => by
    rw [List.lookup_cons] at h
    cases hb : x == k with
    | true => rw [hb] at h; cases h; rw [beq_iff_eq.mp hb]; exact List.mem_cons_self
    | false => rw [hb] at h; exact List.mem_cons_of_mem _ (mem_lookup h)
theorem pair_addr : ∀ {cs : List (Str × Addr)}, (cs.Pairwise fun x y => x.2 ≠ y.2) → ∀ {a b : Str} {c : Addr}, (a, c) ∈ cs → (b, c) ∈ cs → a = b
  | x :: r, hp, n, n', c, h, h' => by
    obtain ⟨h1, h2⟩ := List.pairwise_cons.mp hp
    rcases List.mem_cons.mp h with e | h <;> rcases List.mem_cons.mp h' with e' | h'
    · rw [← e'] at e; exact (Prod.mk.inj e).1
    · exact absurd (by rw [← e]) (h1 _ h')
    · exact absurd (by rw [← e']) (h1 _ h)
    · exact pair_addr h2 h h'
theorem store_fm (ok : C.Ok n top) {A : Around} {s : Shared} {μ : Str → Option Value} {x : Str} {v : Value} {Q : Unit → Shared → Prop} {E : Value → Shared → Prop} (f : Fm C.env s.heap μ) (hs : storeOk C x = true)
    (hc : ∀ c, C.env.kindOf x ≠ some .local → C.env.cells.lookup x = some c → ∃ v₀, s.heap.IsCell c v₀)
    (h : ∀ h' tk a o', a ∈ C.priv → Heap.SameBut a s.heap h' → h'.get? a = some o' → (∀ vs, o'.data ≠ .fields vs) → Fm C.env h' (fun y => if y = x then some v else μ y) → Q () { s with heap := h', toks := tk }) :
    wpAny (model prog w) A (storeName C.env x v) Q E s := by
  unfold storeOk at hs
  split at hs
  · rename_i hl
    obtain ⟨m, hm, e⟩ := f.ns
    refine wpAny_storeName_local hl hm (fun h' hn hsb => ?_) (by rw [ok.kind]; rfl)
    obtain ⟨o', es, ep, g, hd, hk, hf⟩ := id hn
    refine h h' _ C.env.locals o' ok.loc hsb g (by rw [hd]; intro vs q; cases q) ⟨⟨_, hn, fun y hy => ?_⟩, fun y c hy hcy => ?_⟩
    · by_cases q : y = x
      · simp [q]
      · simp only [q, if_false]; exact e y hy
    · have : y ≠ x := fun q => hy (q ▸ hl)
      simp only [this, if_false]
      exact (f.cell y c hy hcy).sameBut hsb (ok.off _ (mem_lookup hcy))
  · rename_i hl
    split at hs
    · rename_i c hcx
      obtain ⟨v₀, hv⟩ := hc c (by rw [hl]; decide) hcx
      refine wpAny_storeName_cell ok.kind hl hcx hv fun h' hn hsb => ?_
      obtain ⟨o', g, hd⟩ := id hn
      have ev : { s with heap := h' } = { s with heap := h', toks := s.toks } := rfl
      rw [ev]
      refine h h' _ c o' (by simpa using hs) hsb g (by rw [hd]; intro vs q; cases q) ⟨?_, fun y d hy hdy => ?_⟩
      · obtain ⟨m, hm, e⟩ := f.ns
        refine ⟨m, hm.sameBut hsb (Ne.symm (ok.off _ (mem_lookup hcx))), fun y hy => ?_⟩
        have : y ≠ x := fun q => by rw [q, hl] at hy; cases hy
        simp only [this, if_false]; exact e y hy
      · by_cases q : y = x
        · subst q; rw [hcx] at hdy; cases hdy; simpa using hn
        · simp only [q, if_false]
          exact (f.cell y d hy hdy).sameBut hsb fun z => q (pair_addr ok.apart (mem_lookup hdy) (z ▸ mem_lookup hcx))
    · cases hs
  · cases hs
theorem store_rel (ok : C.Ok n top) {A : Around} {its own σ s} {i : Nat} {x : Str} {v : Value} {sl : Slot} {Q : Unit → Shared → Prop} {E : Value → Shared → Prop} (R : Rel C its own σ s) (hx : C.names[i]? = some x) (hs : storeOk C x = true)
    (hv : SlotIs (C.X its own) s.heap own i (some v) sl) (h : ∀ s', Rel C its own (σ.set i sl) s' → Chg C own own s s' → Q () s') : wpAny (model prog w) A (storeName C.env x v) Q E s := by
  obtain ⟨μ, f, hv'⟩ := R.vars
  refine store_fm ok f hs (fun c hk hc => ⟨_, f.cell x c hk hc⟩) fun h' tk a o' ha hsb g hd f' => ?_
  have haX : a ∈ C.X its own := List.mem_append_right _ (List.mem_append_left _ ha)
  have sub := hid_same hsb haX
  have lift : ∀ {j sl u}, SlotIs (C.X its own) s.heap own j u sl → SlotIs (C.X its own) h' own j u sl := by
    intro j sl u q
    cases sl with
    | no => trivial
    | val d => obtain ⟨z, e, r⟩ := q; exact ⟨z, e, r.keeps sub⟩
    | own xs =>
      obtain ⟨b, ws, m, e, hm, g', r⟩ := q
      exact ⟨b, ws, m, e, hm, (hsb.2 b fun z => (R.off _ hm).1 (z ▸ ha)).trans g', r.keeps sub⟩
    | bag l => obtain ⟨z, e, r⟩ := q; exact ⟨z, e, r.keeps sub⟩
  refine h _ ⟨?_, R.fresh, fun b hb => ?_, R.apart, R.off, FunFrames_same R.frames hsb g hd, _, f', fun j y sl' hj hsl => ?_⟩ ⟨⟨_, _, rfl⟩, fun b o e nb _ => (hsb.2 b fun z => nb (z ▸ ha)).trans e, fun b o e => ?_, fun _ z => .inl z⟩
  · refine R.ext.trans_priv ?_
    exact ⟨a, hsb, R.fresh a (List.mem_append_left _ ha), tk, rfl⟩
  · by_cases z : b = a
    · exact ⟨o', z ▸ g⟩
    · obtain ⟨o, e⟩ := R.alloc b hb
      exact ⟨o, (hsb.2 b z).trans e⟩
  · rcases set_at hsl with ⟨rfl, rfl⟩ | ⟨hne, hsl⟩
    · have : y = x := by rw [hx] at hj; cases hj; rfl
      simp only [this, if_true]
      exact lift hv
    · have : y ≠ x := fun q => hne (nodup_at ok.nd (q ▸ hj) hx)
      simp only [this, if_false]
      exact lift (hv' j y sl' hj hsl)
  · by_cases z : b = a
    · exact ⟨o', z ▸ g⟩
    · exact ⟨o, (hsb.2 b z).trans e⟩
theorem ss_let (ok : C.Ok n top) {i : Nat} {x : Str} {e : Expr} {p pos : Pos} {d : DE} (hx : C.names[i]? = some x) (hs : storeOk C x = true) (he : SE prog w C e d)
    (hsw : swapsWith e (some (.Name x p)) pos.line C.env = pure false := by rfl) : SS prog w C (.Assign [.Name x p] e pos) (sLet i d) := by
  intro its own σ s o Q E R hd h
  unfold sLet at hd
  split at hd
  · rename_i r hr
    cases hd
    refine wpAny_Assign_Name (he _ _ _ _ _ _ _ R hr fun v s' e' q => ?_) hsw
    exact store_rel (sl := .val r) ok (R.grow e') hx hs ⟨v, rfl, q⟩ fun s'' R' hc => h _ _ _ R' ((Chg.ext e').trans hc)
  · cases hd
end
end Mine
end
section
namespace Mine
open PySem PySem.W PySem.Calls PyProof.Rows
open PySem.SeqAt (shaped)
section
variable {prog : Program} {w : World} {C : Cx} {n : Nat} {top : Heap → Prop}

/-! ### what may be walked -/
inductive Src (X : List Addr) (h : Heap) (x : Value) (xs : List PyData) : Prop where
  | list : Rd X h x (.list xs) → Src X h x xs
  | tuple : Rd X h x (.tuple xs) → Src X h x xs
  | range {r : Addr} {a b : Int} {t u v : Tok} : x = .ref r → IsRange h r a b 1 t u v → (-(2 ^ 20) < a ∧ a < 2 ^ 20) → (-(2 ^ 20) < b ∧ b < 2 ^ 20) → xs = (iota a (b - a).toNat).map .int → Src X h x xs
noncomputable def SI (prog : Program) (w : World) (C : Cx) (e : Expr) (d : DL) : Prop :=
  ∀ its own σ s xs (Q : Value → Shared → Prop) (E : Value → Shared → Prop), Rel C its own σ s → d σ = some xs →
    (∀ v s', Ext s s' → Src (C.X its own) s'.heap v xs → Q v s') → wpAny (model prog w) C.A (eval e C.env) Q E s
theorem si_val {e : Expr} {d : DE} (he : SE prog w C e d) : SI prog w C e (items d) := by
  intro its own σ s xs Q E R hd h
  unfold items at hd
  split at hd
  · rename_i ys hy
    cases hd
    exact he _ _ _ _ _ _ _ R hy fun v s' e' q => h v s' e' (.list q)
  · rename_i ys hy
    cases hd
    exact he _ _ _ _ _ _ _ R hy fun v s' e' q => h v s' e' (.tuple q)
  · cases hd
theorem si_range1 (ok : C.Ok n top) {e : Expr} {p pos : Pos} {d : DE} (g : Glb top "range" (.type "range")) (he : SE prog w C e d) (hk : C.env.kindOf "range" = some .globalImplicit)
    (hx : starEach [e] C.env = (false, eval e C.env) :: starEach [] C.env := by rfl) : SI prog w C (.Call (.Name "range" p) [e] [] pos) (rangeTo d) := by
  intro its own σ s xs Q E R hd h
  unfold rangeTo at hd
  split at hd
  · rename_i k hk'
    split at hd
    · rename_i hlt
      cases hd
      refine wpAny_Call_NameR (name_glob ok R hk (g _ ok.top) ?_ (by decide))
      refine args1 (.inr ⟨_, rfl⟩) he R hk' (fun v s₁ e₁ ra => ?_) hx
      obtain ⟨t, rfl⟩ := ra.ofInt
      refine call_range_1 (h _ _ (e₁.trans ((Ext.push _).trans (Ext.tok _))) (.range rfl (Heap.get?_push_size _ rfl) (by decide) hlt ?_))
      rw [show k - 0 = k by omega]
    · cases hd
  · cases hd
theorem si_range2 (ok : C.Ok n top) {e e' : Expr} {p pos : Pos} {d d' : DE} (g : Glb top "range" (.type "range")) (he : SE prog w C e d) (he' : SE prog w C e' d') (hk : C.env.kindOf "range" = some .globalImplicit)
    (hx : starEach [e, e'] C.env = (false, eval e C.env) :: starEach [e'] C.env := by rfl) (hx' : starEach [e'] C.env = (false, eval e' C.env) :: starEach [] C.env := by rfl) : SI prog w C (.Call (.Name "range" p) [e, e'] [] pos) (range2 d d') := by
  intro its own σ s xs Q E R hd h
  unfold range2 at hd
  split at hd
  · rename_i i k hi hk'
    split at hd
    · rename_i hlt
      cases hd
      refine wpAny_Call_NameR (name_glob ok R hk (g _ ok.top) ?_ (by decide))
      refine callWith_type1 (args_cons (he _ _ _ _ _ _ _ R hi fun v s₁ e₁ ra => args_cons (he' _ _ _ _ _ _ _ (R.grow e₁) hk' fun v' s₂ e₂ rb => args_nil ?_) hx') hx) hx (by rw [hx']; rfl)
      obtain ⟨t, rfl⟩ := ra.ofInt
      obtain ⟨u, rfl⟩ := rb.ofInt
      exact call_range_2 (h _ _ (e₁.trans (e₂.trans ((Ext.push _).trans (Ext.tok _)))) (.range rfl (Heap.get?_push_size _ rfl) hlt.1 hlt.2 rfl))
    · cases hd
  · cases hd

structure Iter (prog : Program) (w : World) (A : Around) (X : List Addr) (I : Addr) (h : Heap) (xs : List PyData) (St : Nat → Heap → Prop) : Prop where
  walks : ∃ fp P, Walks prog w A I fp [I] xs.length P St ∧ (∀ b ∈ fp, b = I ∨ (b ∉ X ∧ ∃ o, h.get? b = some o)) ∧ ∀ j v, j < xs.length → P j v → ∃ d, xs[j]? = some d ∧ Rd (I :: X) h v d
  obj : ∀ j h', St j h' → ∃ o T vs, h'.get? I = some o ∧ o.cls = .type T ∧ o.data = .fields vs ∧ ["enumerate", "zip", "dict_itemiterator", "dict_reverseitemiterator", "odict_iterator", "itertools.zip_longest", "itertools.pairwise"].contains T = false
theorem rd_hide {X : List Addr} {h h' : Heap} {v : Value} {d : PyData} {I : Addr} (q : Rd X h v d) (k : Sub h h') (hI : h.get? I = none) : Rd (I :: X) h' v d :=
  q.keeps (hid_sub fun b o nb e => ⟨k b o e, fun m => by
    rcases List.mem_cons.mp m with z | z
    · rw [z, hI] at e; cases e
    · exact nb z⟩)
theorem new_none {s : Shared} : s.heap.get? s.heap.objs.size = none := by
  cases h : s.heap.get? s.heap.objs.size with
  | none => rfl
  | some o => exact absurd (Heap.lt_size h) (Nat.lt_irrefl _)
theorem small_of {a b : Int} (ha : -(2 ^ 20) < a ∧ a < 2 ^ 20) (hb : -(2 ^ 20) < b ∧ b < 2 ^ 20) : Builtin.Range.small a b 1 = true := small_one (by omega) (by omega) (by omega) (by omega)
theorem iter_src {A : Around} {X : List Addr} {s : Shared} {x : Value} {xs : List PyData} {Q : Value → Shared → Prop} {E : Value → Shared → Prop} (hh : A.handled = none) (al : ∀ p ∈ X, ∃ o, s.heap.get? p = some o) (sx : Src X s.heap x xs)
    (h : ∀ I St s', Ext s s' → s.heap.get? I = none → Iter prog w A X I s'.heap xs St → St 0 s'.heap → Q (.ref I) s') : wpAny (model prog w) A (pyIter x) Q E s := by
  cases sx with
  | list q =>
    obtain ⟨l, ob, ws, m, rfl, nl, g, hc, hd, q⟩ := q.ofList
    have isl : s.heap.IsList l ws := ⟨ob, g, hc, m, hd⟩
    have hne : l ≠ s.heap.objs.size := Nat.ne_of_lt (Heap.lt_size g)
    have ls := q.length
    rw [Array.length_toList] at ls
    have W := Walks.list (prog := prog) (w := w) hh s.heap.objs.size l hne ws
    rw [ls] at W
    refine wpAny_pyIter_list isl (h _ _ _ (Ext.push _) new_none ⟨⟨_, _, W, ?_, ?_⟩, ?_⟩ ⟨⟨_, Heap.get?_push_size _ rfl, rfl, rfl⟩, isl.push _⟩)
    · intro b hb
      rcases List.mem_cons.mp hb with z | z
      · exact .inl z
      · rw [List.mem_singleton.mp z]; exact .inr ⟨nl, ob, Heap.get?_push_of_some _ g⟩
    · intro j v hj hp
      obtain ⟨u, hu, ru⟩ := q.at (List.getElem?_eq_getElem hj)
      have : u = v := by
        have : ws[j]? = some u := by simpa using hu
        rw [this] at hp; exact Option.some.inj hp
      subst this
      exact ⟨_, List.getElem?_eq_getElem hj, rd_hide ru (Ext.push (s := s) _).keep new_none⟩
    · rintro j h' ⟨⟨o, g', c', d'⟩, _⟩
      exact ⟨o, _, _, g', c', d', by decide⟩
  | tuple q =>
    obtain ⟨l, ob, ws, m, rfl, nl, g, hc, hd, q⟩ := q.ofTuple
    have isl : s.heap.IsTuple l ws := ⟨ob, g, hc, m, hd⟩
    have hne : l ≠ s.heap.objs.size := Nat.ne_of_lt (Heap.lt_size g)
    have ls := q.length
    rw [Array.length_toList] at ls
    have W := Walks.tuple (prog := prog) (w := w) hh s.heap.objs.size l hne ws
    rw [ls] at W
    refine wpAny_pyIter_tuple isl (h _ _ _ (Ext.push _) new_none ⟨⟨_, _, W, ?_, ?_⟩, ?_⟩ ⟨⟨_, Heap.get?_push_size _ rfl, rfl, rfl⟩, isl.at fun o e => Heap.get?_push_of_some _ e⟩)
    · intro b hb
      rcases List.mem_cons.mp hb with z | z
      · exact .inl z
      · rw [List.mem_singleton.mp z]; exact .inr ⟨nl, ob, Heap.get?_push_of_some _ g⟩
    · intro j v hj hp
      obtain ⟨u, hu, ru⟩ := q.at (List.getElem?_eq_getElem hj)
      have : u = v := by
        have : ws[j]? = some u := by simpa using hu
        rw [this] at hp; exact Option.some.inj hp
      subst this
      exact ⟨_, List.getElem?_eq_getElem hj, rd_hide ru (Ext.push (s := s) _).keep new_none⟩
    · rintro j h' ⟨⟨o, g', c', d'⟩, _⟩
      exact ⟨o, _, _, g', c', d', by decide⟩
  | range e hr ha hb hx =>
    rename_i r a b t u v
    subst e hx
    have hsz : Builtin.Range.rangeSize a b 1 = ((b - a).toNat : Int) := by rw [rangeSize_one]; omega
    have W := Walks.range (prog := prog) (w := w) hh s.heap.objs.size a 1 ((iota a (b - a).toNat).map PyData.int).length
    have ln : ((iota a (b - a).toNat).map PyData.int).length = (b - a).toNat := by simp [iota]
    refine wpAny_pyIter_range hr (small_of ha hb) (h _ _ _ (Ext.push _) new_none ⟨⟨_, _, W, ?_, ?_⟩, ?_⟩ ?_)
    · intro b hb; exact .inl (List.mem_singleton.mp hb)
    · rintro j v hj ⟨t, rfl⟩
      rw [ln] at hj
      refine ⟨.int (a + j), by simp [iota, hj], ?_⟩
      rw [show a + (j : Int) * 1 = a + j by omega]
      exact Rd.int _ _
    · intro j h' g'
      exact ⟨_, _, _, g', rfl, rfl, by decide⟩
    · show IsRangeIter _ _ _ _ _
      rw [hsz, ln]
      simpa using Heap.get?_push_size _ rfl
theorem owned_go {A : Around} {s : Shared} {I : Addr} {o : Obj} {T : String} {vs : Array Value} {tgt : Expr} {v : Value} {Q : Unit → Shared → Prop} {E : Value → Shared → Prop} (g : s.heap.get? I = some o) (hc : o.cls = .type T) (hd : o.data = .fields vs)
    (hb : ["enumerate", "zip", "dict_itemiterator", "dict_reverseitemiterator", "odict_iterator", "itertools.zip_longest", "itertools.pairwise"].contains T = false) (h : Q () s) : wpAny (model prog w) A (letOwnedTupleGo tgt (.ref I) v) Q E s := by
  unfold letOwnedTupleGo
  have fin : wpAny (model prog w) A (do
      let (.ref r, .ref a) := ((.ref I : Value), v) | return
      let o ← load r
      match o.cls, o.data with
      | .type n, .fields vs =>
        if ["enumerate", "zip", "dict_itemiterator", "dict_reverseitemiterator", "odict_iterator", "itertools.zip_longest", "itertools.pairwise"].contains n && vs[0]? == some (rawInt a) then
          rule "for.unpacks-the-owned-tuple"
          updateField r 0 .none
      | _, _ => pure () : Sem Unit) Q E s := by
    cases v with
    | ref a =>
      refine wpAny_bind (wpAny_load g ?_)
      rw [hc, hd]
      dsimp only
      rw [hb, Bool.false_and, if_neg Bool.false_ne_true]
      exact wpAny_pure h
    | _ => exact wpAny_pure h
  split
  · exact fin
  · exact fin
  · exact wpAny_pure h
end
end Mine
end
section
namespace Mine
open PySem PySem.W PySem.Calls PyProof.Rows
open PySem.SeqAt (shaped)
section
variable {prog : Program} {w : World} {C : Cx} {n : Nat} {top : Heap → Prop}

/-- a target: a name, or a tuple of names -/
noncomputable def ST (prog : Program) (w : World) (C : Cx) (t : Expr) (T : PyData → St → Option St) : Prop :=
  ∀ its own σ s v d σ' (Q : Unit → Shared → Prop) (E : Value → Shared → Prop), Rel C its own σ s → Rd (C.X its own) s.heap v d → T d σ = some σ' →
    (∀ s', Rel C its own σ' s' → Chg C own own s s' → Q () s') → wpAny (model prog w) C.A (assign t C.env v) Q E s
theorem Chg.sub {its own own' σ s s'} (R : Rel C its own σ s) (hc : Chg C own own' s s') : Sub (hideAll s.heap (C.X its own)) (hideAll s'.heap (C.X its own')) :=
  hid_sub fun b o nb e => by
    simp only [Cx.X, List.mem_append, not_or] at nb ⊢
    refine ⟨hc.pres b o e nb.2.1 nb.2.2.2, nb.1, nb.2.1, nb.2.2.1, fun m => ?_⟩
    rcases hc.news b m with z | z
    · exact nb.2.2.2 z
    · rw [e] at z; cases z
theorem st_name (ok : C.Ok n top) {i : Nat} {x : Str} {p : Pos} (hx : C.names[i]? = some x) (hs : storeOk C x = true) : ST prog w C (.Name x p) (toOne i) := by
  intro its own σ s v d σ' Q E R q e h
  cases e
  exact wpAny_assign_Name (store_rel (sl := .val d) ok R hx hs ⟨v, rfl, q⟩ h)
inductive Names (C : Cx) : List Expr → List Nat → Prop where
  | nil : Names C [] []
  | cons {x : Str} {p : Pos} {i : Nat} {es : List Expr} {is : List Nat} : C.names[i]? = some x → storeOk C x = true → Names C es is → Names C (.Name x p :: es) (i :: is)
theorem names_store (ok : C.Ok n top) : ∀ {es : List Expr} {is : List Nat}, Names C es is → ∀ (its own σ s vs ds σ') (Q : Unit → Shared → Prop) (E : Value → Shared → Prop), Rel C its own σ s → RdAll (C.X its own) s.heap vs ds → setAll is ds σ = some σ' →
    (∀ s', Rel C its own σ' s' → Chg C own own s s' → Q () s') → wpAny (model prog w) C.A (assignInOrder ((assignEach es C.env).map (·.2)) vs) Q E s
  | _, _, .nil, its, own, σ, s, vs, ds, σ', Q, E, R, q, e, h => by
    cases ds with
    | nil =>
      cases e
      have := q.length
      cases vs with
      | nil => exact wpAny_assignInOrder_none (h s R Chg.rf)
      | cons => simp at this
    | cons => cases e
  | _, _, .cons hx hs r, its, own, σ, s, vs, ds, σ', Q, E, R, q, e, h => by
    cases ds with
    | nil => cases e
    | cons d ds =>
      cases vs with
      | nil => have := q.length; simp at this
      | cons v vs =>
        refine wpAny_assignInOrder_more (wpAny_assign_Name (store_rel (sl := .val d) ok R hx hs ⟨v, rfl, q.inv.1⟩ fun s₁ R₁ hc => ?_))
        exact names_store ok r _ _ _ _ _ _ _ _ _ R₁ (q.inv.2.keeps (hc.sub R)) e fun s₂ R₂ hc₂ => h s₂ R₂ (hc.trans hc₂)
theorem names_len {es : List Expr} {is : List Nat} (h : Names C es is) : (assignEach es C.env).length = is.length ∧ (assignEach es C.env).findIdx? (·.1) = none := by
  induction h with
  | nil => exact ⟨rfl, rfl⟩
  | cons hx hs r ih =>
    constructor
    · simp [assignEach, ih.1]
    · simp [assignEach, List.findIdx?_cons, ih.2]
theorem setAll_len : ∀ {is : List Nat} {ds : List PyData} {σ σ' : St}, setAll is ds σ = some σ' → ds.length = is.length
  | [], [], _, _, _ => rfl
  | [], _ :: _, _, _, h => by cases h
  | _ :: _, [], _, _, h => by cases h
  | _ :: is, _ :: ds, _, _, h => by simp [setAll_len (is := is) (ds := ds) h]
theorem Rel.extBut {its own σ s h'} (R : Rel C its own σ s) (he : Heap.ExtBut s.heap.objs.size s.heap h') : Ext s { s with heap := h' } :=
  ⟨⟨_, _, rfl⟩, fun b o e => he b o (Nat.ne_of_lt (Heap.lt_size e)) e⟩
theorem wpAny_assign_TupleL {A : Around} {env : Env} {s : Shared} {E : Value → Shared → Prop} {elts : List Expr} {x1} {pos : Pos} {t : Addr} {items : Array Value} {Q : Unit → Shared → Prop} (hh : A.handled = none) (ht : s.heap.IsList t items)
    (hn : (assignEach elts env).length = items.size) (hstar : (assignEach elts env).findIdx? (·.1) = none)
    (h : ∀ h', Heap.ExtBut s.heap.objs.size s.heap h' → wpAny (model prog w) A (assignInOrder ((assignEach elts env).map (·.2)) items.toList) Q E { s with heap := h' }) :
    wpAny (model prog w) A (assign (.Tuple elts x1 pos) env (.ref t)) Q E s := by
  show wpAny _ _ (do standAt pos; unpack (.ref t) (assignEach elts env)) _ _ _
  refine wpAny_bind (wpAny_standAt ?_)
  unfold unpack
  rw [hn, hstar]
  exact wpAny_bind (wpAny_holding (kun_itemsOf hh ht h))
theorem st_tuple (ok : C.Ok n top) {es : List Expr} {is : List Nat} {k : Nat} {p : Pos} (hn : Names C es is) : ST prog w C (.Tuple es k p) (unpackTo is) := by
  intro its own σ s v d σ' Q E R q e h
  obtain ⟨l1, l2⟩ := names_len hn
  unfold unpackTo at e
  split at e
  · obtain ⟨a, ob, ws, m, rfl, _, g, hc, hd, q⟩ := q.ofTuple
    have ls := q.length
    have l3 := setAll_len e
    rw [Array.length_toList] at ls
    refine wpAny_assign_Tuple ok.room.handled ⟨ob, g, hc, m, hd⟩ (by omega) l2 fun h' he => ?_
    have e' := R.extBut he
    exact names_store ok hn _ _ _ _ _ _ _ _ _ (R.grow e') (q.grow e'.keep) e fun s₂ R₂ hc₂ => h s₂ R₂ ((Chg.ext e').trans hc₂)
  · obtain ⟨a, ob, ws, m, rfl, _, g, hc, hd, q⟩ := q.ofList
    have ls := q.length
    have l3 := setAll_len e
    rw [Array.length_toList] at ls
    refine wpAny_assign_TupleL ok.room.handled ⟨ob, g, hc, m, hd⟩ (by omega) l2 fun h' he => ?_
    have e' := R.extBut he
    exact names_store ok hn _ _ _ _ _ _ _ _ _ (R.grow e') (q.grow e'.keep) e fun s₂ R₂ hc₂ => h s₂ R₂ ((Chg.ext e').trans hc₂)
  · cases e
/-- «a, b = e» -/
theorem ss_unpack (ok : C.Ok n top) {es : List Expr} {is : List Nat} {k : Nat} {e : Expr} {p pos : Pos} {d : DE} (hn : Names C es is) (he : SE prog w C e d)
    (hsw : swapsWithSole [.Tuple es k p] e pos.line C.env = pure false := by rfl) (hw : swappedStores [.Tuple es k p] e C.env = pure none := by rfl) : SS prog w C (.Assign [.Tuple es k p] e pos) (sUnpack is d) := by
  intro its own σ s o Q E R hd h
  unfold sUnpack at hd
  split at hd
  · rename_i r hr
    split at hd
    · rename_i σ' hσ
      cases hd
      refine wpAny_Assign_stores (he _ _ _ _ _ _ _ R hr fun v s' e' q => ?_) hsw hw
      show wpAny _ _ (assignAll v [assign (.Tuple es k p) C.env]) _ _ _
      unfold assignAll
      exact st_tuple ok hn _ _ _ _ _ _ _ _ _ (R.grow e') q hσ fun s'' R' hc => h _ _ _ R' ((Chg.ext e').trans hc)
    · cases hd
  · cases hd
end
end Mine
end
section
namespace Mine
open PySem PySem.W PySem.Calls PyProof.Rows
open PySem.SeqAt (shaped)
section
variable {prog : Program} {w : World} {C : Cx} {n : Nat} {top : Heap → Prop}

theorem FunFrames_off {h h' base : Heap} {l : List Env} {I : Addr} {o : Obj} {vs : Array Value} (x : h.FunFrames base l) (g : h.get? I = some o) (hd : o.data = .fields vs) (k : ∀ b o, b ≠ I → h.get? b = some o → h'.get? b = some o) : h'.FunFrames base l := by
  induction l with
  | nil => trivial
  | cons env r ih =>
    obtain ⟨h1, ⟨L, o', h2, h3, h4, h5⟩, h6⟩ := x
    refine ⟨h1, ⟨L, o', h2, h3, k L o' (fun e => ?_) h4, h5⟩, ih h6⟩
    rw [e, g] at h4; cases h4
    exact h5 vs hd
theorem mem_X {its own} {b : Addr} : b ∈ C.X its own ↔ b ∈ C.X0 ∨ b ∈ C.priv ∨ b ∈ its ∨ b ∈ own.map (·.2) := by simp [Cx.X]
theorem SlotIs.keeps {X X' : List Addr} {h h' : Heap} {own own' : List (Nat × Addr)} {i : Nat} {v : Option Value} {sl : Slot} (x : SlotIs X h own i v sl) (k : Sub (hideAll h X) (hideAll h' X'))
    (ko : ∀ a ws m, sl ≠ .no → (i, a) ∈ own → h.get? a = some (lobj ws m) → (i, a) ∈ own' ∧ h'.get? a = some (lobj ws m)) : SlotIs X' h' own' i v sl := by
  cases sl with
  | no => trivial
  | val d => obtain ⟨u, e, r⟩ := x; exact ⟨u, e, r.keeps k⟩
  | own xs => obtain ⟨a, ws, m, e, hm, g, q⟩ := x; exact ⟨a, ws, m, e, (ko a ws m (by simp) hm g).1, (ko a ws m (by simp) hm g).2, q.keeps k⟩
  | bag l => obtain ⟨u, e, r⟩ := x; exact ⟨u, e, r.keeps k⟩
/-- an iterator is made: its address is private from now on -/
theorem Rel.addIt {its own σ s s' I} {o : Obj} (ok : C.Ok n top) (R : Rel C its own σ s) (e : Ext s s') (hI : s.heap.get? I = none) (g : s'.heap.get? I = some o) : Rel C (I :: its) own σ s' := by
  have nI : I ∉ C.X its own := fun m => by obtain ⟨o, g⟩ := R.alloc _ m; rw [hI] at g; cases g
  have nI' := nI
  rw [mem_X] at nI'
  simp only [not_or] at nI'
  refine ⟨R.ext.trans e, fun x hx => ?_, fun x hx => ?_, R.apart, fun p hp => ⟨(R.off p hp).1, fun m => ?_, (R.off p hp).2.2⟩, FunFrames_keeps R.frames e.keep, ?_⟩
  · simp only [List.mem_append, List.mem_cons] at hx
    rcases hx with hx | (rfl | hx) | hx
    · exact R.fresh x (by simp [hx])
    · cases hq : C.s0.heap.get? x with
      | none => rfl
      | some o => rw [R.ext.keep _ _ hq] at hI; cases hI
    · exact R.fresh x (by simp [hx])
    · exact R.fresh x (by simp only [List.mem_append]; exact .inr (.inr hx))
  · rw [mem_X] at hx
    rcases hx with hx | hx | hx | hx
    · obtain ⟨o, q⟩ := R.alloc x (mem_X.mpr (.inl hx)); exact ⟨o, e.keep _ _ q⟩
    · obtain ⟨o, q⟩ := R.alloc x (mem_X.mpr (.inr (.inl hx))); exact ⟨o, e.keep _ _ q⟩
    · rcases List.mem_cons.mp hx with rfl | hx
      · exact ⟨o, g⟩
      · obtain ⟨o, q⟩ := R.alloc x (mem_X.mpr (.inr (.inr (.inl hx)))); exact ⟨o, e.keep _ _ q⟩
    · obtain ⟨o, q⟩ := R.alloc x (mem_X.mpr (.inr (.inr (.inr hx)))); exact ⟨o, e.keep _ _ q⟩
  · rcases List.mem_cons.mp m with z | z
    · exact nI'.2.2.2 (z ▸ List.mem_map_of_mem hp)
    · exact (R.off p hp).2.1 z
  · obtain ⟨μ, f, v⟩ := R.vars
    refine ⟨μ, f.grow e.keep, fun i y sl a b => (v i y sl a b).keeps (hid_sub fun b o nb q => ⟨e.keep b o q, fun m => ?_⟩) fun a ws m _ hm g => ⟨hm, e.keep _ _ g⟩⟩
    rw [mem_X] at m nb
    simp only [not_or] at nb
    rcases m with m | m | m | m
    · exact nb.1 m
    · exact nb.2.1 m
    · rcases List.mem_cons.mp m with z | z
      · rw [z, hI] at q; cases q
      · exact nb.2.2.1 z
    · exact nb.2.2.2 m
/-- the iterator moves on -/
theorem Rel.tick {its own σ s h' tk I} {o o' : Obj} {vs : Array Value} (ok : C.Ok n top) (R : Rel C (I :: its) own σ s) (g : s.heap.get? I = some o) (hd : o.data = .fields vs) (g' : h'.get? I = some o')
    (k : ∀ b o, b ≠ I → s.heap.get? b = some o → h'.get? b = some o) : Rel C (I :: its) own σ { s with heap := h', toks := tk } := by
  have fI : C.s0.heap.get? I = none := R.fresh I (by simp)
  have iX : I ∈ C.X (I :: its) own := mem_X.mpr (.inr (.inr (.inl (.head _))))
  refine ⟨⟨?_, fun b o e => k b o (fun z => ?_) (R.ext.keep b o e)⟩, R.fresh, fun x hx => ?_, R.apart, R.off, FunFrames_off R.frames g hd k, ?_⟩
  · obtain ⟨⟨h, t, rfl⟩, _⟩ := R.ext; exact ⟨_, _, rfl⟩
  · rw [z, fI] at e; cases e
  · by_cases z : x = I
    · exact ⟨o', z ▸ g'⟩
    · obtain ⟨o, e⟩ := R.alloc x hx; exact ⟨o, k x o z e⟩
  · obtain ⟨μ, f, v⟩ := R.vars
    have hns : ∀ {b o}, s.heap.get? b = some o → (∀ vs, o.data ≠ .fields vs) → h'.get? b = some o := fun {b o'} e hn => k b o' (fun z => by rw [z, g] at e; cases e; exact hn vs hd) e
    refine ⟨μ, ⟨?_, fun y c hy hc => ?_⟩, fun i y sl a b => (v i y sl a b).keeps (hid_sub fun b o nb q => ⟨k b o (fun z => nb (z ▸ iX)) q, nb⟩) fun a ws m _ hm g => ⟨hm, hns g (by simp [lobj])⟩⟩
    · obtain ⟨m, ⟨oL, es, ep, a1, a2, a3⟩, b⟩ := f.ns
      exact ⟨m, ⟨oL, es, ep, hns a1 (by rw [a2]; simp), a2, a3⟩, b⟩
    · obtain ⟨oc, a1, a2⟩ := f.cell y c hy hc
      exact ⟨oc, hns a1 (by rw [a2]; simp), a2⟩
/-- the iterator is let go -/
theorem Rel.dropIt {its own σ s I} (R : Rel C (I :: its) own σ s) : Rel C its own σ s := by
  have sub : ∀ b, b ∈ C.X its own → b ∈ C.X (I :: its) own := fun b m => by
    rw [mem_X] at m ⊢
    rcases m with m | m | m | m
    · exact .inl m
    · exact .inr (.inl m)
    · exact .inr (.inr (.inl (.tail _ m)))
    · exact .inr (.inr (.inr m))
  refine ⟨R.ext, fun x hx => R.fresh x ?_, fun x hx => R.alloc x (sub x hx), R.apart, fun p hp => ⟨(R.off p hp).1, fun m => (R.off p hp).2.1 (.tail _ m), (R.off p hp).2.2⟩, R.frames, ?_⟩
  · simp only [List.mem_append, List.mem_cons] at hx ⊢
    rcases hx with hx | hx | hx
    · exact .inl hx
    · exact .inr (.inl (.inr hx))
    · exact .inr (.inr hx)
  · obtain ⟨μ, f, v⟩ := R.vars
    exact ⟨μ, f, fun i y sl a b => (v i y sl a b).keeps (hid_sub fun b o nb q => ⟨q, fun m => nb (sub b m)⟩) fun a ws m _ hm g => ⟨hm, g⟩⟩
/-- the last pyNext: only the iterator may change -/
theorem Rel.endIt {its own σ s h' tk I} {o : Obj} {vs : Array Value} (ok : C.Ok n top) (R : Rel C (I :: its) own σ s) (nI : I ∉ C.priv ∧ I ∉ its) (g : s.heap.get? I = some o) (hd : o.data = .fields vs)
    (k : ∀ b o, b ≠ I → s.heap.get? b = some o → h'.get? b = some o) : Rel C its own σ { s with heap := h', toks := tk } := by
  have fI : C.s0.heap.get? I = none := R.fresh I (by simp)
  have hns : ∀ {b o}, s.heap.get? b = some o → (∀ vs, o.data ≠ .fields vs) → h'.get? b = some o := fun {b o'} e hn => k b o' (fun z => by rw [z, g] at e; cases e; exact hn vs hd) e
  have R' := R.dropIt
  have ne : ∀ x ∈ C.X its own, x ≠ I := fun x hx z => by
    subst z
    rw [mem_X] at hx
    rcases hx with m | m | m | m
    · obtain ⟨o, e⟩ := ok.x0 x m; rw [fI] at e; cases e
    · exact nI.1 m
    · exact nI.2 m
    · obtain ⟨p, hp, rfl⟩ := List.mem_map.mp m
      exact (R.off p hp).2.1 (.head _)
  refine ⟨⟨?_, fun b o e => k b o (fun z => ?_) (R.ext.keep b o e)⟩, R'.fresh, fun x hx => ?_, R'.apart, R'.off, FunFrames_off R.frames g hd k, ?_⟩
  · obtain ⟨⟨h, t, rfl⟩, _⟩ := R.ext; exact ⟨_, _, rfl⟩
  · rw [z, fI] at e; cases e
  · obtain ⟨o, e⟩ := R'.alloc x hx; exact ⟨o, k x o (ne x hx) e⟩
  · obtain ⟨μ, f, v⟩ := R.vars
    refine ⟨μ, ⟨?_, fun y c hy hc => ?_⟩, fun i y sl a b => (v i y sl a b).keeps (hid_sub fun b o nb q => ⟨k b o (fun z => nb (mem_X.mpr (.inr (.inr (.inl (z ▸ .head _)))))) q, fun m => nb ?_⟩) fun a ws m _ hm g => ⟨hm, hns g (by simp [lobj])⟩⟩
    · obtain ⟨m, ⟨oL, es, ep, a1, a2, a3⟩, b⟩ := f.ns
      exact ⟨m, ⟨oL, es, ep, hns a1 (by rw [a2]; simp), a2, a3⟩, b⟩
    · obtain ⟨oc, a1, a2⟩ := f.cell y c hy hc
      exact ⟨oc, hns a1 (by rw [a2]; simp), a2⟩
    · rw [mem_X] at m ⊢
      rcases m with m | m | m | m
      · exact .inl m
      · exact .inr (.inl m)
      · exact .inr (.inr (.inl (.tail _ m)))
      · exact .inr (.inr (.inr m))
theorem Chg.wide {own own' s s' I} (hc : Chg C own own' s s') : Chg C ((0, I) :: own) ((0, I) :: own') s s' :=
  ⟨hc.same, fun b o e h1 h2 => hc.pres b o e h1 fun m => h2 (List.mem_cons_of_mem _ m), hc.alive, fun a ha => by
    rcases List.mem_cons.mp ha with z | z
    · exact .inl (z ▸ List.mem_cons_self)
    · rcases hc.news a z with q | q
      · exact .inl (List.mem_cons_of_mem _ q)
      · exact .inr q⟩
theorem Chg.tick {own s h' tk I} {o' : Obj} (g' : h'.get? I = some o') (k : ∀ b o, b ≠ I → s.heap.get? b = some o → h'.get? b = some o) : Chg C ((0, I) :: own) ((0, I) :: own) s { s with heap := h', toks := tk } :=
  ⟨⟨_, _, rfl⟩, fun b o e _ h2 => k b o (fun z => h2 (z ▸ List.mem_cons_self)) e, fun b o e => by
    by_cases z : b = I
    · exact ⟨o', z ▸ g'⟩
    · exact ⟨o, k b o z e⟩, fun _ h => .inl h⟩
theorem Chg.narrow {own own' s s₂ s' I} (hc : Chg C ((0, I) :: own) ((0, I) :: own') s₂ s') (e : Ext s s₂) (hI : s.heap.get? I = none) : Chg C own own' s s' := by
  refine ⟨?_, fun b o g h1 h2 => hc.pres b o (e.keep b o g) h1 fun m => ?_, fun b o g => hc.alive b o (e.keep b o g), fun a ha => ?_⟩
  · obtain ⟨h, t, rfl⟩ := e.same
    obtain ⟨h', t', rfl⟩ := hc.same
    exact ⟨_, _, rfl⟩
  · rcases List.mem_cons.mp m with z | z
    · have z' : b = I := z
      rw [z', hI] at g; cases g
    · exact h2 z
  · rcases hc.news a (List.mem_cons_of_mem _ ha) with z | z
    · rcases List.mem_cons.mp z with z | z
      · have z' : a = I := z
        exact .inr (z' ▸ hI)
      · exact .inl z
    · cases hg : s.heap.get? a with
      | none => exact .inr rfl
      | some o => rw [e.keep a o hg] at z; cases z
/-- pyNext at the end may drop the iterator: what the frame keeps -/
theorem Chg.ended {own own' s s₂ s' h' tk I} (hc : Chg C ((0, I) :: own) ((0, I) :: own') s₂ s') (e : Ext s s₂) (hI : s.heap.get? I = none) (k : ∀ b o, b ≠ I → s'.heap.get? b = some o → h'.get? b = some o) : Chg C own own' s { s' with heap := h', toks := tk } := by
  have hn := hc.narrow e hI
  refine ⟨?_, fun b o g h1 h2 => k b o (fun z => ?_) (hn.pres b o g h1 h2), fun b o g => ?_, hn.news⟩
  · obtain ⟨h, t, rfl⟩ := hn.same; exact ⟨_, _, rfl⟩
  · rw [z, hI] at g; cases g
  · obtain ⟨o', g'⟩ := hn.alive b o g
    exact ⟨o', k b o' (fun z => by rw [z, hI] at g; cases g) g'⟩

theorem ss_for (ok : C.Ok n top) {tgt it : Expr} {body : List Stmt} {pos : Pos} {T : PyData → St → Option St} {src : DL} {D : DS} (hi : SI prog w C it src) (ht : ST prog w C tgt T) (hb : SSs prog w C body D)
    (hs : ∀ x, foldedSetIterable it C.env x = pure x := by intro _; rfl) : SS prog w C (.For tgt it body [] pos) (sFor T src D) := by
  intro its own σ s o Q E R hd h
  unfold sFor at hd
  split at hd
  · rename_i xs ex
    refine wpAny_For (hi _ _ _ _ _ _ _ R ex fun x s₁ e₁ sx => ?_) hs
    refine iter_src (prog := prog) (w := w) ok.room.handled (R.grow e₁).alloc sx fun I St s₂ e₂ hI iter st0 => ?_
    have hIs : s.heap.get? I = none := by
      cases hq : s.heap.get? I with
      | none => rfl
      | some o => rw [e₁.keep _ _ hq] at hI; cases hI
    have nIX : I ∉ C.X its own := fun m => by obtain ⟨o, g⟩ := (R.grow e₁).alloc _ m; rw [hI] at g; cases g
    have nI : I ∉ C.priv ∧ I ∉ its := by rw [mem_X] at nIX; simp only [not_or] at nIX; exact ⟨nIX.2.1, nIX.2.2.1⟩
    obtain ⟨oI, TI, vsI, gI, cI, dI, bI⟩ := iter.obj 0 _ st0
    have R₂ : Rel C (I :: its) own σ s₂ := (R.grow e₁).addIt ok e₂ hI gI
    have e12 : Ext s s₂ := e₁.trans e₂
    obtain ⟨fp, P, W, hfp, hP⟩ := iter.walks
    have hP' : ∀ j v, j < xs.length → P j v → ∃ d, xs[j]? = some d ∧ Rd (C.X (I :: its) own) s₂.heap v d := fun j v hj hp => by
      obtain ⟨d, hd, q⟩ := hP j v hj hp
      refine ⟨d, hd, q.less fun a ha => ?_⟩
      rw [mem_X] at ha
      rcases ha with m | m | m | m
      · exact List.mem_cons_of_mem _ (mem_X.mpr (.inl m))
      · exact List.mem_cons_of_mem _ (mem_X.mpr (.inr (.inl m)))
      · rcases List.mem_cons.mp m with z | z
        · exact z ▸ List.mem_cons_self
        · exact List.mem_cons_of_mem _ (mem_X.mpr (.inr (.inr (.inl z))))
      · exact List.mem_cons_of_mem _ (mem_X.mpr (.inr (.inr (.inr m))))
    refine codeAny_forLoop_any (fun m s' => ∃ j own' σ', m = xs.length - j ∧ j ≤ xs.length ∧ Rel C (I :: its) own' σ' s' ∧ St j s'.heap ∧ Chg C ((0, I) :: own) ((0, I) :: own') s₂ s' ∧ loop T D (xs.drop j) σ' = some o)
      ?_ (xs.length - 0) ⟨0, own, σ, rfl, Nat.zero_le _, R₂, st0, Chg.rf, by simpa using hd⟩
    rintro m s' ⟨j, own', σ', rfl, hj, R', stj, hc, hl⟩
    obtain ⟨oJ, TJ, vsJ, gJ, cJ, dJ, bJ⟩ := iter.obj j _ stj
    by_cases hjl : j < xs.length
    · refine W.item j s' _ _ hjl stj fun v h' tk hv st' k => ?_
      have k' : ∀ b o, b ≠ I → s'.heap.get? b = some o → h'.get? b = some o := fun b o hb g => k b o (by simpa using hb) g
      obtain ⟨oK, TK, vsK, gK, cK, dK, bK⟩ := iter.obj (j + 1) _ st'
      have R₃ := R'.tick (tk := tk) ok gJ dJ gK k'
      have hc₃ : Chg C ((0, I) :: own) ((0, I) :: own') s₂ { s' with heap := h', toks := tk } := hc.trans (Chg.tick gK k')
      obtain ⟨d, hxd, rv⟩ := hP' j v hjl hv
      have hdrop : xs.drop j = d :: xs.drop (j + 1) := by
        rw [List.drop_eq_getElem_cons hjl]
        congr 1
        have := List.getElem?_eq_getElem hjl
        rw [this] at hxd; exact Option.some.inj hxd
      rw [hdrop, loop] at hl
      have rv' : Rd (C.X (I :: its) own') h' v d := rv.keeps (hid_sub fun b o nb g => by
        rw [mem_X] at nb
        simp only [not_or] at nb
        have nbI : b ≠ I := fun z => nb.2.2.1 (z ▸ .head _)
        refine ⟨hc₃.pres b o g nb.2.1 (fun m => ?_), fun m => ?_⟩
        · rcases List.mem_cons.mp m with z | z
          · exact nbI z
          · exact nb.2.2.2 z
        · rw [mem_X] at m
          rcases m with m | m | m | m
          · exact nb.1 m
          · exact nb.2.1 m
          · exact nb.2.2.1 m
          · rcases hc₃.news b (List.mem_cons_of_mem _ m) with z | z
            · rcases List.mem_cons.mp z with z | z
              · exact nbI z
              · exact nb.2.2.2 z
            · rw [g] at z; cases z)
      refine owned_go (s := { s' with heap := h', toks := tk }) gK cK dK bK ?_
      split at hl
      · rename_i σ₁ hσ₁
        refine ht _ _ _ _ _ _ _ _ _ R₃ rv' hσ₁ fun s₄ R₄ hc₄ => ?_
        have frame : ∀ {own'' s₅}, Chg C own' own'' s₄ s₅ → St (j + 1) s₅.heap := fun {own'' s₅} hc₅ => by
          refine W.frame _ _ _ st' fun b hb o g => ?_
          have h45 := hc₄.trans hc₅
          refine h45.pres b o g ?_ ?_
          · rcases hfp b hb with z | ⟨z, _⟩
            · exact z ▸ nI.1
            · exact fun m => z (mem_X.mpr (.inr (.inl m)))
          · intro m
            rcases hfp b hb with z | ⟨z, o₂, g₂⟩
            · obtain ⟨p, hp, e⟩ := List.mem_map.mp m
              exact (R'.off p hp).2.1 (by have : p.2 = b := e; rw [this, z]; exact .head _)
            · rcases hc.news b (List.mem_cons_of_mem _ m) with q | q
              · rcases List.mem_cons.mp q with q | q
                · have q' : b = I := q
                  obtain ⟨p, hp, e⟩ := List.mem_map.mp m
                  exact (R'.off p hp).2.1 (by have : p.2 = b := e; rw [this, q']; exact .head _)
                · exact z (mem_X.mpr (.inr (.inr (.inr q))))
              · rw [g₂] at q; cases q
        split at hl
        · rename_i σ₂ hσ₂
          refine hb _ _ _ _ _ _ _ R₄ hσ₂ fun f s₅ own'' ho hc₅ => ?_
          cases f <;> first | exact ho.elim | skip
          exact ⟨_, by omega, j + 1, own'', σ₂, rfl, hjl, ho, frame hc₅, hc₃.trans (hc₄.wide.trans hc₅.wide), hl⟩
        · rename_i σ₂ hσ₂
          refine hb _ _ _ _ _ _ _ R₄ hσ₂ fun f s₅ own'' ho hc₅ => ?_
          cases f <;> first | exact ho.elim | skip
          exact ⟨_, by omega, j + 1, own'', σ₂, rfl, hjl, ho, frame hc₅, hc₃.trans (hc₄.wide.trans hc₅.wide), hl⟩
        · rename_i σ₂ hσ₂
          cases hl
          refine hb _ _ _ _ _ _ _ R₄ hσ₂ fun f s₅ own'' ho hc₅ => ?_
          cases f <;> first | exact ho.elim | skip
          exact h .next s₅ own'' (Rel.dropIt ho) ((hc₃.trans (hc₄.wide.trans hc₅.wide)).narrow e12 hIs)
        · rename_i dr hσ₂
          cases hl
          refine hb _ _ _ _ _ _ _ R₄ hσ₂ fun f s₅ own'' ho hc₅ => ?_
          cases f <;> first | exact ho.elim | skip
          exact h (.ret _) s₅ own'' ho ((hc₃.trans (hc₄.wide.trans hc₅.wide)).narrow e12 hIs)
        · cases hl
      · cases hl
    · have hje : j = xs.length := by omega
      subst hje
      refine W.done s' _ _ stj fun h' tk k => ?_
      have k' : ∀ b o, b ≠ I → s'.heap.get? b = some o → h'.get? b = some o := fun b o hb g => k b o (by simpa using hb) g
      rw [List.drop_eq_nil_of_le (Nat.le_refl _), loop] at hl
      cases hl
      exact wpAny_execs_nil (h .next _ own' (R'.endIt ok nI gJ dJ k') (hc.ended e12 hIs k'))
  · cases hd
end
end Mine
end
section
namespace Mine
open PySem PySem.W PySem.Calls PyProof.Rows
open PySem.SeqAt (shaped)
section
variable {prog : Program} {w : World} {C : Cx} {n : Nat} {top : Heap → Prop}

/-! ### lists of the frame's own -/
noncomputable def SEo (prog : Program) (w : World) (C : Cx) (e : Expr) (d : DL) : Prop :=
  ∀ its own σ s xs (Q : Value → Shared → Prop) (E : Value → Shared → Prop), Rel C its own σ s → d σ = some xs →
    (∀ a ws m s', Ext s s' → s.heap.get? a = none → s'.heap.get? a = some (lobj ws m) → RdAll (a :: C.X its own) s'.heap ws.toList xs → Q (.ref a) s') → wpAny (model prog w) C.A (eval e C.env) Q E s
theorem Rel.addOwn {its own σ s s' a i} {o : Obj} (ok : C.Ok n top) (R : Rel C its own σ s) (e : Ext s s') (ha : s.heap.get? a = none) (g : s'.heap.get? a = some o) : Rel C its ((i, a) :: own) σ s' := by
  have na : a ∉ C.X its own := fun m => by obtain ⟨o, g⟩ := R.alloc _ m; rw [ha] at g; cases g
  rw [mem_X] at na
  simp only [not_or] at na
  have fa : C.s0.heap.get? a = none := by
    cases hq : C.s0.heap.get? a with
    | none => rfl
    | some o => rw [R.ext.keep _ _ hq] at ha; cases ha
  refine ⟨R.ext.trans e, fun x hx => ?_, fun x hx => ?_, ?_, fun p hp => ?_, FunFrames_keeps R.frames e.keep, ?_⟩
  · simp only [List.mem_append, List.map_cons, List.mem_cons] at hx
    rcases hx with hx | hx | rfl | hx
    · exact R.fresh x (by simp [hx])
    · exact R.fresh x (by simp [hx])
    · exact fa
    · exact R.fresh x (by simp only [List.mem_append]; exact .inr (.inr hx))
  · rw [mem_X] at hx
    rcases hx with hx | hx | hx | hx
    · obtain ⟨o, q⟩ := R.alloc x (mem_X.mpr (.inl hx)); exact ⟨o, e.keep _ _ q⟩
    · obtain ⟨o, q⟩ := R.alloc x (mem_X.mpr (.inr (.inl hx))); exact ⟨o, e.keep _ _ q⟩
    · obtain ⟨o, q⟩ := R.alloc x (mem_X.mpr (.inr (.inr (.inl hx)))); exact ⟨o, e.keep _ _ q⟩
    · rcases List.mem_cons.mp hx with z | hx
      · have z' : x = a := z
        exact ⟨o, z' ▸ g⟩
      · obtain ⟨o, q⟩ := R.alloc x (mem_X.mpr (.inr (.inr (.inr hx)))); exact ⟨o, e.keep _ _ q⟩
  · exact List.nodup_cons.mpr ⟨na.2.2.2, R.apart⟩
  · rcases List.mem_cons.mp hp with rfl | hp
    · refine ⟨na.2.1, na.2.2.1, fun q hq z => ?_⟩
      rcases ok.cin q hq with m | ⟨o', g'⟩
      · have z' : q.2 = a := z
        exact na.2.1 (z' ▸ m)
      · have := R.ext.keep _ _ g'
        have z' : q.2 = a := z
        rw [z', ha] at this; cases this
    · exact R.off p hp
  · obtain ⟨μ, f, v⟩ := R.vars
    refine ⟨μ, f.grow e.keep, fun i y sl a' b => (v i y sl a' b).keeps (hid_sub fun b o nb q => ⟨e.keep b o q, fun m => ?_⟩) fun a ws m _ hm g => ⟨.tail _ hm, e.keep _ _ g⟩⟩
    rw [mem_X] at m nb
    simp only [not_or] at nb
    rcases m with m | m | m | m
    · exact nb.1 m
    · exact nb.2.1 m
    · exact nb.2.2.1 m
    · rcases List.mem_cons.mp m with z | z
      · have z' : b = a := z
        rw [z', ha] at q; cases q
      · exact nb.2.2.2 z
theorem rdall_own {its own a i h vs xs} (q : RdAll (a :: C.X its own) h vs xs) : RdAll (C.X its ((i, a) :: own)) h vs xs := q.less fun b m => by
  rw [mem_X] at m
  rcases m with m | m | m | m
  · exact .tail _ (mem_X.mpr (.inl m))
  · exact .tail _ (mem_X.mpr (.inr (.inl m)))
  · exact .tail _ (mem_X.mpr (.inr (.inr (.inl m))))
  · rcases List.mem_cons.mp m with z | z
    · have z' : b = a := z
      exact z' ▸ .head _
    · exact .tail _ (mem_X.mpr (.inr (.inr (.inr z))))
theorem chg_own {own s s' a i} (e : Ext s s') (ha : s.heap.get? a = none) : Chg C own ((i, a) :: own) s s' :=
  ⟨e.same, fun b o g _ _ => e.keep b o g, fun b o g => ⟨o, e.keep b o g⟩, fun b hb => by
    rcases List.mem_cons.mp hb with z | z
    · have z' : b = a := z
      exact .inr (z' ▸ ha)
    · exact .inl z⟩
/-- a value out of a fresh list -/
theorem se_fresh {e : Expr} {d : DL} (he : SEo prog w C e d) : SE prog w C e (dComp d) := by
  intro its own σ s r Q E R hd h
  unfold dComp at hd
  obtain ⟨xs, hx, rfl⟩ := Option.map_eq_some_iff.mp hd
  refine he _ _ _ _ _ _ _ R hx fun a ws m s' e' ha g q => h _ _ e' (Rd.list (fun z => ?_) g rfl rfl (q.less fun b hb => .tail _ hb))
  obtain ⟨o, g'⟩ := R.alloc _ z
  rw [ha] at g'; cases g'
theorem seo_nil {pos : Pos} : SEo prog w C (.List [] pos) (fun _ => some []) := by
  intro its own σ s xs Q E R hd h
  cases hd
  refine List_ (args_nil (wpAny_newList (h _ #[] 0 _ (Ext.push _) new_none (Heap.get?_push_size _ rfl) RdAll.nil) (by decide)))
noncomputable def listOfD (e : DE) : DL := fun σ => match e σ with
  | some (.list xs) => if xs.length ≤ listLine then some xs else none
  | _ => none
theorem seo_list (ok : C.Ok n top) {e : Expr} {p pos : Pos} {d : DE} (g : Glb top "list" (.type "list")) (he : SE prog w C e d) (hk : C.env.kindOf "list" = some .globalImplicit)
    (hx : starEach [e] C.env = (false, eval e C.env) :: starEach [] C.env := by rfl) : SEo prog w C (.Call (.Name "list" p) [e] [] pos) (listOfD d) := by
  intro its own σ s xs Q E R hd h
  unfold listOfD at hd
  split at hd
  · rename_i ys hy
    split at hd
    · rename_i hl
      cases hd
      refine wpAny_Call_NameR (name_glob ok R hk (g _ ok.top) ?_ (by decide))
      refine args1 (.inr ⟨_, rfl⟩) he R hy (fun v s₁ e₁ ra => ?_) hx
      obtain ⟨l, ob, ws, m, rfl, _, g, hc, hd, q⟩ := ra.ofList
      have ls := q.length
      rw [Array.length_toList] at ls
      refine call_list_seq l (.inl rfl) g hc hd (fun h' c' k e => ?_) (by rw [ls]; exact listLine_le hl)
      refine h _ ws c' _ (e₁.trans ⟨⟨_, _, rfl⟩, k⟩) ?_ e ?_
      · cases hq : s.heap.get? s₁.heap.objs.size with
        | none => rfl
        | some o => have := e₁.keep _ _ hq; rw [new_none] at this; cases this
      · exact q.keeps (hid_sub fun b o nb g => ⟨k b o g, fun m => by
          rcases List.mem_cons.mp m with z | z
          · rw [z, new_none] at g; cases g
          · exact nb z⟩)
    · cases hd
  · cases hd
theorem ss_own (ok : C.Ok n top) {i : Nat} {x : Str} {e : Expr} {p pos : Pos} {d : DL} (hx : C.names[i]? = some x) (hs : storeOk C x = true) (he : SEo prog w C e d)
    (hsw : swapsWith e (some (.Name x p)) pos.line C.env = pure false := by rfl) : SS prog w C (.Assign [.Name x p] e pos) (sOwn i d) := by
  intro its own σ s o Q E R hd h
  unfold sOwn at hd
  split at hd
  · rename_i xs hxs
    cases hd
    refine wpAny_Assign_Name (he _ _ _ _ _ _ _ R hxs fun a ws m s' e' ha g q => ?_) hsw
    have R' := R.addOwn (i := i) ok e' ha g
    exact store_rel (sl := .own xs) ok R' hx hs ⟨a, ws, m, rfl, .head _, g, rdall_own q⟩ fun s'' R'' hc => h _ _ _ R'' ((chg_own e' ha).trans hc)
  · cases hd

/-! ### reading and changing them -/
theorem own_slot {its own σ s i x} {xs : List PyData} (R : Rel C its own σ s) (hx : C.names[i]? = some x) (hi : σ[i]? = some (.own xs)) :
    ∃ μ a ws m, Fm C.env s.heap μ ∧ μ x = some (.ref a) ∧ (i, a) ∈ own ∧ s.heap.get? a = some (lobj ws m) ∧ RdAll (C.X its own) s.heap ws.toList xs := by
  obtain ⟨μ, f, v⟩ := R.vars
  obtain ⟨a, ws, m, e, hm, g, q⟩ := v i x _ hx hi
  exact ⟨μ, a, ws, m, f, e, hm, g, q⟩
theorem name_own (ok : C.Ok n top) {its own σ s i x pos} {xs : List PyData} {Q : Value → Shared → Prop} {E : Value → Shared → Prop} (R : Rel C its own σ s) (hx : C.names[i]? = some x) (hk : kindOk C.env x = true) (hi : σ[i]? = some (.own xs))
    (h : ∀ a ws m, (i, a) ∈ own → s.heap.get? a = some (lobj ws m) → RdAll (C.X its own) s.heap ws.toList xs → Q (.ref a) s) : wpAny (model prog w) C.A (eval (.Name x pos) C.env) Q E s := by
  obtain ⟨μ, a, ws, m, f, e, hm, g, q⟩ := own_slot R hx hi
  refine wpAny_Name (f.load ok.kind hk e (h a ws m hm g q)) ?_
  unfold kindOk at hk
  rw [Bool.and_eq_true] at hk
  simpa using hk.2
theorem dOwnLen_some {i : Nat} {σ : St} {r : PyData} (h : dOwnLen i σ = some r) : ∃ xs, σ[i]? = some (.own xs) ∧ xs.length ≤ listLine ∧ r = .int xs.length := by
  unfold dOwnLen at h
  split at h
  · rename_i xs e
    unfold vLen at h
    simp only at h
    split at h
    · cases h; exact ⟨xs, e, by assumption, rfl⟩
    · cases h
  · cases h
theorem se_ownLen (ok : C.Ok n top) {i : Nat} {x : Str} {p q pos : Pos} (hx : C.names[i]? = some x) (hk : kindOk C.env x = true) (g : Glb top "len" (.builtin "len")) (hl : C.env.kindOf "len" = some .globalImplicit) :
    SE prog w C (.Call (.Name "len" p) [.Name x q] [] pos) (dOwnLen i) := by
  intro its own σ s r Q E R hd h
  obtain ⟨xs, hi, hle, rfl⟩ := dOwnLen_some hd
  refine wpAny_Call_NameR (name_glob ok R hl (g _ ok.top) ?_ (by decide))
  refine callWith_builtin1 (args_cons (name_own ok R hx hk hi fun a ws m hm g q => args_nil ?_)) rfl
  have ls := q.length
  rw [Array.length_toList] at ls
  have hb : (listLine : Int) < 2 ^ 63 := by decide
  refine len_list ⟨_, g, rfl, m, rfl⟩ (by omega) ?_
  rw [ls]
  exact h _ _ (Ext.tok _) (Rd.int _ _)
theorem se_ownItem (ok : C.Ok n top) {i : Nat} {x : Str} {e : Expr} {q pos : Pos} {d : DE} (hx : C.names[i]? = some x) (hk : kindOk C.env x = true) (he : SE prog w C e d)
    (hs : ∀ o k, subscripted e false o k = operate [o, k] (getItem o k) := by intro _ _; rfl) : SE prog w C (.Subscript (.Name x q) e pos) (dOwnItem i d) := by
  intro its own σ s r Q E R hd h
  unfold dOwnItem at hd
  split at hd
  · rename_i xs k hi hkk
    refine Subscript_ (name_own ok R hx hk hi fun a ws m hm g qa => he _ _ _ _ _ _ _ R hkk fun b s₂ e₂ rb => ?_)
    obtain ⟨xs', k', j, hc, rfl, hj, hr⟩ := vItem_some hd
    have hxs : xs' = xs := by rcases hc with z | z <;> cases z; rfl
    subst hxs
    obtain ⟨hl, hj⟩ := idxOf_some hj
    have hb : (listLine : Int) < 2 ^ 63 := by decide
    obtain ⟨u, rfl⟩ := rb.ofInt
    have isl : s₂.heap.IsList a ws := ⟨_, e₂.keep _ _ g, rfl, m, rfl⟩
    obtain ⟨v, hv, rv⟩ := (qa.grow e₂.keep).at hr
    have ls := qa.length
    rw [Array.length_toList] at ls
    refine tail_any isl.typeIs slot_list_getitem.lookup ?_ (hs _ _)
    rcases hj with ⟨h0, h1, rfl⟩ | ⟨h0, h1, rfl⟩
    · exact wpAny_getItem_list isl h0 (by omega) (by simpa using hv) (h v _ e₂ rv)
    · exact wpAny_getItem_list_neg isl h0 (by omega) (by omega) (by rw [ls]; simpa using hv) (h v _ e₂ rv)
  · cases hd
abbrev Cx.Slots (C : Cx) (its : List Addr) (own : List (Nat × Addr)) (σ : St) (h : Heap) (μ : Str → Option Value) : Prop :=
  ∀ i x sl, C.names[i]? = some x → σ[i]? = some sl → SlotIs (C.X its own) h own i (μ x) sl
theorem own_inj {own : List (Nat × Addr)} (nd : (own.map (·.2)).Nodup) : ∀ {p q : Nat × Addr}, p ∈ own → q ∈ own → p.2 = q.2 → p = q := by
  intro p q hp hq e
  induction own with
  | nil => cases hp
  | cons r l ih =>
    rw [List.map_cons, List.nodup_cons] at nd
    rcases List.mem_cons.mp hp with z | hp <;> rcases List.mem_cons.mp hq with z' | hq
    · rw [z, z']
    · exact absurd (List.mem_map.mpr ⟨q, hq, by rw [← e, z]⟩) nd.1
    · exact absurd (List.mem_map.mpr ⟨p, hp, by rw [e, z']⟩) nd.1
    · exact ih nd.2 hp hq
/-- an own list takes new items -/
theorem own_update {its own σ s i x a} {μ : Str → Option Value} {ws ws' : Array Value} {m m' : Nat} {xs' : List PyData} {f : Obj → Obj} {tk : Nat} (ok : C.Ok n top) (R : Rel C its own σ s) (hx : C.names[i]? = some x)
    (fm : Fm C.env s.heap μ) (v : C.Slots its own σ s.heap μ) (e : μ x = some (.ref a)) (hm : (i, a) ∈ own)
    (g : s.heap.get? a = some (lobj ws m)) (hf : f (lobj ws m) = lobj ws' m') (q : RdAll (C.X its own) s.heap ws'.toList xs') :
    Rel C its own (σ.set i (.own xs')) { s with heap := s.heap.update a f, toks := tk } ∧ Chg C own own s { s with heap := s.heap.update a f, toks := tk } := by
  have g' : (s.heap.update a f).get? a = some (lobj ws' m') := by rw [← hf]; exact Heap.get?_update_self _ g (by rw [hf]; rfl)
  have hsb : Heap.SameBut a s.heap (s.heap.update a f) := Heap.SameBut.update ..
  have aX : a ∈ C.X its own := mem_X.mpr (.inr (.inr (.inr (List.mem_map.mpr ⟨_, hm, rfl⟩))))
  have fa : C.s0.heap.get? a = none := R.fresh a (by simp only [List.mem_append]; exact .inr (.inr (List.mem_map.mpr ⟨_, hm, rfl⟩)))
  have sub := hid_same hsb aX
  obtain ⟨h1, h2, h3⟩ := R.off _ hm
  have alive : ∀ b o, s.heap.get? b = some o → ∃ o', (s.heap.update a f).get? b = some o' := fun b o e => by
    by_cases z : b = a
    · exact ⟨_, by rw [z]; exact g'⟩
    · exact ⟨o, (hsb.2 b z).trans e⟩
  refine ⟨⟨R.ext.trans_priv ⟨a, hsb, fa, tk, rfl⟩, R.fresh, fun b hb => ?_, R.apart, R.off, FunFrames_same R.frames hsb g' (by intro vs; simp [lobj]), μ, ⟨?_, fun y c hy hc => ?_⟩, fun j y sl hj hsl => ?_⟩,
    ⟨⟨_, _, rfl⟩, fun b o e _ nb => (hsb.2 b fun z => nb (z ▸ List.mem_map.mpr ⟨_, hm, rfl⟩)).trans e, alive, fun _ z => .inl z⟩⟩
  · obtain ⟨o, e⟩ := R.alloc b hb
    exact alive b o e
  · obtain ⟨mm, hn, hk⟩ := fm.ns
    exact ⟨mm, hn.sameBut hsb fun z => h1 (z ▸ ok.loc), hk⟩
  · exact (fm.cell y c hy hc).sameBut hsb (h3 _ (mem_lookup hc))
  · rcases set_at hsl with ⟨rfl, rfl⟩ | ⟨hne, hsl⟩
    · have : y = x := by rw [hx] at hj; cases hj; rfl
      subst this
      exact ⟨a, ws', m', e, hm, g', q.keeps sub⟩
    · refine (v j y sl hj hsl).keeps sub fun b ws₁ m₁ _ hb gb => ⟨hb, (hsb.2 b fun z => ?_).trans gb⟩
      have := own_inj R.apart hb hm (by exact z)
      exact hne (by cases this; rfl)
theorem name_own' (ok : C.Ok n top) {its own σ s i x pos} {xs : List PyData} {Q : Value → Shared → Prop} {E : Value → Shared → Prop} (R : Rel C its own σ s) (hx : C.names[i]? = some x) (hk : kindOk C.env x = true) (hi : σ[i]? = some (.own xs))
    (h : ∀ μ a ws m, Fm C.env s.heap μ → C.Slots its own σ s.heap μ → μ x = some (.ref a) → (i, a) ∈ own → s.heap.get? a = some (lobj ws m) → RdAll (C.X its own) s.heap ws.toList xs → Q (.ref a) s) : wpAny (model prog w) C.A (eval (.Name x pos) C.env) Q E s := by
  obtain ⟨μ, f, v⟩ := R.vars
  obtain ⟨a, ws, m, e, hm, g, q⟩ := v i x _ hx hi
  refine wpAny_Name (f.load ok.kind hk e (h μ a ws m f v e hm g q)) ?_
  unfold kindOk at hk
  rw [Bool.and_eq_true] at hk
  simpa using hk.2
theorem append_at {A : Around} {s : Shared} {l : Addr} {ws : Array Value} {m : Nat} {x : Value} {Q : Value → Shared → Prop} {E : Value → Shared → Prop} (g : s.heap.get? l = some (lobj ws m)) (hsz : ws.size ≤ sizeLine)
    (h : Q .none { s with heap := s.heap.update l (Obj.mapSeq (·.push x)) }) : wpAny (model prog w) A (call (.builtin "list.append") [.ref l, x]) Q E s := by
  have isl : s.heap.IsList l ws := ⟨_, g, rfl, m, rfl⟩
  refine wpAny_call_entry slot_list_append isl.typeIs entry_list_append ?_ (args_list_append _ _)
  show wpAny _ _ (updateSeq l (·.push x) >>= fun _ => ret .none) _ _ s
  refine wpAny_bind (wpAny_updateSeq g rfl (wpAny_pure ⟨.none, rfl, h⟩) (hz := hsz))
theorem sAppend_some {i : Nat} {e : DE} {σ : St} {o : Out} (h : sAppend i e σ = some o) : ∃ d xs, e σ = some d ∧ σ[i]? = some (.own xs) ∧ xs.length ≤ listLine ∧ o = .next (σ.set i (.own (xs ++ [d]))) := by
  unfold sAppend at h
  split at h
  · rename_i d hd
    split at h
    · rename_i xs hx
      split at h
      · cases h; exact ⟨d, xs, hd, hx, by assumption, rfl⟩
      · cases h
    · cases h
  · cases h
theorem ss_append (ok : C.Ok n top) {i : Nat} {x : Str} {e : Expr} {p q q' pos : Pos} {d : DE} (hx : C.names[i]? = some x) (hk : kindOk C.env x = true) (he : SE prog w C e d)
    (hbase : attributeBase (.Name x p) "append" C.env (eval (.Name x p) C.env) = eval (.Name x p) C.env := by rfl)
    (hfew : ((backTo q' (starEach [e] C.env)).all (fun x => !x.1) && (backToKw q' (keywordEach [] C.env)).all (fun x => x.1.isSome)
      && decide (([e] : List Expr).length + ([] : List Keyword).length + (if ([] : List Keyword).isEmpty then 0 else 1) < 30)) = true := by rfl)
    (hline : (q.endLine == q'.line) = true := by rfl) (htrees : backTo q' (starEach [e] C.env) = [(false, eval e C.env)] := by rfl)
    (hint : interactive C.env = false := by rfl) : SS prog w C (.Expr (.Call (.Attribute (.Name x p) "append" q) [e] [] q') pos) (sAppend i d) := by
  intro its own σ s o Q E R hd h
  obtain ⟨r, xs, hr, hi, hl, rfl⟩ := sAppend_some hd
  refine wpAny_Expr_any (wpAny_Call_append hbase hfew hline htrees (name_own' ok R hx hk hi fun μ a ws m f v ev hm g qa => ?_)) hint
  refine ⟨a, ws, rfl, ⟨_, m, g, rfl, rfl, rfl⟩, he _ _ _ _ _ _ _ R hr fun y s₂ e₂ ry => ?_⟩
  have ls := qa.length
  rw [Array.length_toList] at ls
  have g₂ := e₂.keep _ _ g
  refine append_at g₂ (by rw [ls]; exact listLine_le hl) ?_
  have v₂ : C.Slots its own σ s₂.heap μ := fun j y sl a b => (v j y sl a b).grow e₂.keep
  obtain ⟨R', hc⟩ := own_update (f := Obj.mapSeq (·.push y)) (ws' := ws.push y) (xs' := xs ++ [r]) (tk := s₂.toks) ok (R.grow e₂) hx (f.grow e₂.keep) v₂ ev hm g₂ rfl (by
    rw [Array.toList_push]
    exact (qa.grow e₂.keep).append (RdAll.cons ry RdAll.nil))
  exact h _ _ _ R' ((Chg.ext e₂).trans hc)
theorem sExtend_some {i : Nat} {e : DE} {σ : St} {o : Out} (h : sExtend i e σ = some o) : ∃ ds xs, e σ = some (.list ds) ∧ σ[i]? = some (.own xs) ∧ xs.length + ds.length ≤ listLine ∧ o = .next (σ.set i (.own (xs ++ ds))) := by
  unfold sExtend at h
  split at h
  · rename_i d hd
    split at h
    · rename_i xs hx
      split at h
      · cases h; exact ⟨d, xs, hd, hx, by assumption, rfl⟩
      · cases h
    · cases h
  · cases h
theorem sSetItem_some {i : Nat} {k e : DE} {σ : St} {o : Out} (h : sSetItem i k e σ = some o) : ∃ d j xs, e σ = some d ∧ k σ = some (.int j) ∧ σ[i]? = some (.own xs) ∧ 0 ≤ j ∧ j < (xs.length : Int) ∧ xs.length ≤ listLine ∧ o = .next (σ.set i (.own (xs.set j.toNat d))) := by
  unfold sSetItem at h
  split at h
  · rename_i d j xs hd hk hx
    split at h
    · rename_i hj
      cases h; exact ⟨d, j, xs, hd, hk, hx, hj.1.1, hj.1.2, hj.2, rfl⟩
    · cases h
  · cases h

theorem setItem_at {A : Around} {s : Shared} {l : Addr} {ws : Array Value} {m : Nat} {k : Int} {t : Tok} {v : Value} {Q : Unit → Shared → Prop} {E : Value → Shared → Prop} (g : s.heap.get? l = some (lobj ws m))
    (h0 : 0 ≤ k) (hfit : k < 2 ^ 63) (hn : k < ws.size) (h : Q () { s with heap := s.heap.update l (Obj.mapSeq (·.setIfInBounds k.toNat v)) }) : wpAny (model prog w) A (setItem (.ref l) (.int k t) v) Q E s := by
  have isl : s.heap.IsList l ws := ⟨_, g, rfl, m, rfl⟩
  unfold setItem
  try with_reducible refine wpAny_holding ?_
  first | refine wpAny_bind (wpAny_pure ?_) | skip
  refine wpAny_bind (wpAny_sequenceKey isl.typeIs (by decide) ?_)
  refine wpAny_bind (wpAny_callSpecial?_slot (name := Str.ofString "__setitem__") isl.typeIs slot_list_setitem
    (wpAny_call_entry slot_list_setitem isl.typeIs entry_list_setitem ?_ (args_list_setitem _ _ _)))
  show wpAny _ _ (Builtin.List.listSubscript? (.int k t) >>= _) _ _ s
  refine wpAny_bind (wpAny_listSubscript_int (fitsIndex_of h0 hfit) ?_)
  clear hfit
  obtain ⟨j, rfl⟩ := Int.eq_ofNat_of_zero_le h0
  have hj : j < ws.size := by omega
  have hx' : ws[j]? = some ws[j] := Array.getElem?_eq_getElem hj
  show wpAny _ _ ((seqItemAt l j >>= fun r => pure (r.map (j, ·))) >>= _) _ _ s
  refine wpAny_bind (wpAny_bind (wpAny_seqItemAt g rfl (wpAny_pure ?_)))
  rw [hx']
  show wpAny _ _ (setSeqItemAt l j v >>= _) _ _ s
  refine wpAny_bind (wpAny_setSeqItemAt g rfl ?_)
  first
    | exact wpAny_bind (wpAny_pure (wpAny_pure ⟨.none, rfl, wpAny_pure h⟩))
    | exact wpAny_pure ⟨.none, rfl, wpAny_pure h⟩
theorem RdAll.set {X : List Addr} {h : Heap} {v : Value} {d : PyData} : ∀ {vs : List Value} {xs : List PyData} (j : Nat), RdAll X h vs xs → Rd X h v d → RdAll X h (vs.set j v) (xs.set j d)
  | [], xs, j, a, b => by
    have := a.length
    cases xs with
    | nil => simpa using RdAll.nil
    | cons => simp at this
  | u :: vs, xs, j, a, b => by
    cases xs with
    | nil => have := a.length; simp at this
    | cons x xs =>
      cases j with
      | zero => exact RdAll.cons b a.inv.2
      | succ j => exact RdAll.cons a.inv.1 (RdAll.set j a.inv.2 b)
theorem ss_setItem (ok : C.Ok n top) {i : Nat} {x : Str} {e k : Expr} {p q pos : Pos} {d dk : DE} (hx : C.names[i]? = some x) (hk : kindOk C.env x = true) (he : SE prog w C e d) (hkk : SE prog w C k dk)
    (hsw : swapsWith e (some (.Subscript (.Name x p) k q)) pos.line C.env = pure false := by rfl) : SS prog w C (.Assign [.Subscript (.Name x p) k q] e pos) (sSetItem i dk d) := by
  intro its own σ s o Q E R hd h
  obtain ⟨r, j, xs, hr, hj, hi, h0, hn, hle, rfl⟩ := sSetItem_some hd
  refine wpAny_Assign_Subscript (he _ _ _ _ _ _ _ R hr fun v s₁ e₁ rv => name_own' ok (R.grow e₁) hx hk hi fun μ a ws m f vv ev hm g qa => hkk _ _ _ _ _ _ _ (R.grow e₁) hj fun kv s₂ e₂ rk => ?_) hsw
  obtain ⟨t, rfl⟩ := rk.ofInt
  have ls := qa.length
  rw [Array.length_toList] at ls
  have g₂ := e₂.keep _ _ g
  have hb : (listLine : Int) < 2 ^ 63 := by decide
  refine setItem_at g₂ h0 (by omega) (by omega) ?_
  have v₂ : C.Slots its own σ s₂.heap μ := fun j y sl a b => (vv j y sl a b).grow e₂.keep
  obtain ⟨R', hc⟩ := own_update (f := Obj.mapSeq (·.setIfInBounds j.toNat v)) (ws' := ws.setIfInBounds j.toNat v) (xs' := xs.set j.toNat r) (tk := s₂.toks) ok ((R.grow e₁).grow e₂) hx (f.grow e₂.keep) v₂ ev hm g₂ rfl (by
    rw [Array.toList_setIfInBounds]
    exact (qa.grow e₂.keep).set _ (rv.grow e₂.keep))
  exact h _ _ _ R' ((Chg.ext (e₁.trans e₂)).trans hc)
/-- from now on it is a value -/
theorem Rel.freeze {its own σ s i x} {xs : List PyData} (ok : C.Ok n top) (R : Rel C its own σ s) (hx : C.names[i]? = some x) (hi : σ[i]? = some (.own xs)) : ∃ own', Rel C its own' (σ.set i (.val (.list xs))) s ∧ Chg C own own' s s := by
  obtain ⟨μ, f, v⟩ := R.vars
  obtain ⟨a, ws, m, ev, hm, g, qa⟩ := v i x _ hx hi
  have fa : C.s0.heap.get? a = none := R.fresh a (by simp only [List.mem_append]; exact .inr (.inr (List.mem_map.mpr ⟨_, hm, rfl⟩)))
  obtain ⟨h1, h2, h3⟩ := R.off _ hm
  let own' := own.filter fun p => decide (p.2 ≠ a)
  have sub : ∀ p ∈ own', p ∈ own := fun p hp => (List.mem_filter.mp hp).1
  have ne : ∀ p ∈ own', p.2 ≠ a := fun p hp => by simpa using (List.mem_filter.mp hp).2
  have subm : ∀ b ∈ own'.map (·.2), b ∈ own.map (·.2) := fun b hb => by
    obtain ⟨p, hp, rfl⟩ := List.mem_map.mp hb
    exact List.mem_map.mpr ⟨p, sub p hp, rfl⟩
  have subX : ∀ b ∈ C.X its own', b ∈ C.X its own := fun b hb => by
    rw [mem_X] at hb ⊢
    rcases hb with z | z | z | z
    · exact .inl z
    · exact .inr (.inl z)
    · exact .inr (.inr (.inl z))
    · exact .inr (.inr (.inr (subm b z)))
  have na : a ∉ C.X its own' := fun hb => by
    rw [mem_X] at hb
    rcases hb with z | z | z | z
    · obtain ⟨o, e⟩ := ok.x0 a z; rw [fa] at e; cases e
    · exact h1 z
    · exact h2 z
    · obtain ⟨p, hp, e⟩ := List.mem_map.mp z
      exact ne p hp e
  refine ⟨own', ⟨R.ext, fun b hb => R.fresh b ?_, fun b hb => R.alloc b (subX b hb), ?_, fun p hp => R.off p (sub p hp), R.frames, μ, f, fun j y sl hj hsl => ?_⟩, ⟨⟨_, _, rfl⟩, fun _ _ e _ _ => e, fun _ o e => ⟨o, e⟩, fun b hb => .inl (subm b hb)⟩⟩
  · simp only [List.mem_append] at hb ⊢
    rcases hb with z | z | z
    · exact .inl z
    · exact .inr (.inl z)
    · exact .inr (.inr (subm b z))
  · exact R.apart.sublist (List.Sublist.map _ List.filter_sublist)
  · rcases set_at hsl with ⟨rfl, rfl⟩ | ⟨hne, hsl⟩
    · have : y = x := by rw [hx] at hj; cases hj; rfl
      subst this
      exact ⟨_, ev, Rd.list na g rfl rfl (qa.less subX)⟩
    · refine (v j y sl hj hsl).keeps (hid_sub fun b o nb e => ⟨e, fun z => nb (subX b z)⟩) fun b ws₁ m₁ _ hb gb => ⟨List.mem_filter.mpr ⟨hb, ?_⟩, gb⟩
      simp only [ne_eq, decide_not, Bool.not_eq_eq_eq_not, Bool.not_true, decide_eq_false_iff_not]
      intro z
      have := own_inj R.apart hb hm (by exact z)
      exact hne (by cases this; rfl)
theorem sFreeze_some {i : Nat} {σ : St} {o : Out} (h : sFreeze i σ = some o) : ∃ xs, σ[i]? = some (.own xs) ∧ o = .next (σ.set i (.val (.list xs))) := by
  unfold sFreeze at h
  split at h
  · cases h; exact ⟨_, by assumption, rfl⟩
  · cases h
theorem sss_freeze (ok : C.Ok n top) {i : Nat} {x : Str} {rest : List Stmt} {ds : List DS} (hx : C.names[i]? = some x) (h2 : SSs prog w C rest (sSeq ds)) : SSs prog w C rest (sSeq (sFreeze i :: ds)) := by
  intro its own σ s o Q E R hd h
  rw [sSeq] at hd
  split at hd
  · rename_i σ' e
    obtain ⟨xs, hi, e'⟩ := sFreeze_some e
    cases e'
    obtain ⟨own', R', hc⟩ := R.freeze ok hx hi
    exact h2 _ _ _ _ _ _ _ R' hd fun f s' own'' ho hc' => h f s' own'' ho (hc.trans hc')
  · rename_i o' hn e
    obtain ⟨xs, hi, e'⟩ := sFreeze_some e
    exact absurd e' (hn _)
  · cases hd
end
end Mine
end
section
namespace Mine
open PySem PySem.W PySem.Calls PyProof.Rows
open PySem.SeqAt (shaped)
section
variable {prog : Program} {w : World} {C : Cx} {n : Nat} {top : Heap → Prop}

/-! ### comprehensions -/
/-- the turns of a list comprehension, its target any -/
theorem compLoop_any {A : Around} {R : Result → Shared → Prop} {s : Shared} {elt target iter : Expr} {ifs : List Expr} {scope : Scope} {pos : Pos} {it acc : Value} {env : Env} (I : Nat → Shared → Prop)
    (turn : ∀ n s, I n s → wpAny (model prog w) A (pyNext it) (fun r s₁ => match r with
      | none => R (.ok .next) s₁
      | some v => wpAny (model prog w) A (letOwnedTupleGo target it v) (fun _ s₁' => wpAny (model prog w) A (assign target env v) (fun _ s₂ =>
          wpAny (model prog w) A (forIn ifs true fun c r => if r = true then do let ok ← isTrue c env (eval c env); pure (ForInStep.yield ok) else pure (ForInStep.yield r)) (fun ok s₃ =>
            if ok = true then wpAny (model prog w) A (eval elt env) (fun x s₄ =>
              wpAny (model prog w) A (call (.builtin "list.append") [acc, x]) (fun _ s₅ => ∃ m, m < n ∧ I m s₅) (notedBy (model prog w) A env fun e s' => R (.error e) s') s₄) (notedBy (model prog w) A env fun e s' => R (.error e) s') s₃
            else ∃ m, m < n ∧ I m s₃) (notedBy (model prog w) A env fun e s' => R (.error e) s') s₂) (notedBy (model prog w) A env fun e s' => R (.error e) s') s₁') (notedBy (model prog w) A env fun e s' => R (.error e) s') s₁) (notedBy (model prog w) A env fun e s' => R (.error e) s') s)
    (n : Nat) (h : I n s) : codeAny (model prog w) A (.compLoop (.ListComp elt [⟨target, iter, ifs, 0⟩] scope pos) 0 it acc env) R s := by
  refine codeAny_loop rfl I (fun n s hI => ?_) n h
  show wpAny _ A ((compTurn (.ListComp elt [⟨target, iter, ifs, 0⟩] scope pos) 0 it acc env).onRaise (fun x => do noteFrame x env; theTreesLotGoes x)) _ _ s
  refine wpAny_noted ?_
  rw [compTurn_list]
  refine wpAny_bind (wpAny_standAt (wpAny_bind (wpAny_mono (turn n s hI) (fun r s₁ h₁ => ?_) fun _ _ h' => h')))
  cases r with
  | none => exact wpAny_pure h₁
  | some v =>
    refine wpAny_bind (wpAny_mono h₁ (fun _ s₁' h₁' => ?_) fun _ _ h' => h')
    refine wpAny_bind (wpAny_mono h₁' (fun _ s₂ h₂ => wpAny_bind (wpAny_mono h₂ (fun ok s₃ h₃ => ?_) fun _ _ h' => h')) fun _ _ h' => h')
    cases ok with
    | false => exact wpAny_pure ⟨rfl, h₃⟩
    | true =>
      exact wpAny_bind (wpAny_bind (wpAny_mono h₃ (fun x s₄ h₄ => wpAny_bind (wpAny_mono h₄ (fun _ s₅ h₅ => wpAny_pure (wpAny_pure ⟨rfl, h₅⟩)) fun _ _ h' => h')) fun _ _ h' => h'))
/-- the tests: none or one -/
noncomputable def STs (prog : Program) (w : World) (C : Cx) (ifs : List Expr) (d : DB) : Prop :=
  ∀ its own σ s r (Q : Bool → Shared → Prop) (E : Value → Shared → Prop), Rel C its own σ s → d σ = some r → (∀ s', Ext s s' → Q r s') →
    wpAny (model prog w) C.A (forIn ifs true fun c r => if r = true then do let ok ← isTrue c C.env (eval c C.env); pure (ForInStep.yield ok) else pure (ForInStep.yield r)) Q E s
theorem sts_nil : STs prog w C [] bTrue := by
  intro its own σ s r Q E R hd h
  cases hd
  exact wpAny_tests_nil (h s Ext.rf)
theorem sts_one {e : Expr} {d : DB} (he : SB prog w C e d) : STs prog w C [e] d := by
  intro its own σ s r Q E R hd h
  exact wpAny_tests_one (he _ _ _ _ _ _ _ R hd h)
/-- the comprehension's own frame -/
noncomputable def Cx.comp (C : Cx) (scope : Scope) (cl : List (Str × Addr)) (L : Addr) (names : List Str) (X : List Addr) (s : Shared) : Cx :=
  { A := C.A, env := compEnvC scope cl L C.env, names := names, priv := [L], X0 := X, s0 := s, base := C.base, frs := C.frs }

/-- what a target changes: its own slots alone -/
structure Tgt (k : Nat) (T : PyData → St → Option St) : Prop where
  len : ∀ d σ σ', T d σ = some σ' → σ'.length = σ.length
  off : ∀ d σ σ' j, T d σ = some σ' → k ≤ j → σ'[j]? = σ[j]?
theorem tgt_one {k i : Nat} (h : i < k) : Tgt k (toOne i) := ⟨fun d σ σ' e => by cases e; simp, fun d σ σ' j e hj => by cases e; rw [List.getElem?_set]; rw [if_neg (by omega)]⟩
theorem setAll_off : ∀ {is : List Nat} {ds : List PyData} {σ σ' : St}, setAll is ds σ = some σ' → σ'.length = σ.length ∧ ∀ k j, (∀ i ∈ is, i < k) → k ≤ j → σ'[j]? = σ[j]?
  | [], [], σ, σ', h => by cases h; exact ⟨rfl, fun _ _ _ _ => rfl⟩
  | [], _ :: _, _, _, h => by cases h
  | _ :: _, [], _, _, h => by cases h
  | i :: is, d :: ds, σ, σ', h => by
    have q := setAll_off (is := is) (ds := ds) h
    refine ⟨by rw [q.1]; simp, fun k j hk hj => ?_⟩
    rw [q.2 k j (fun x hx => hk x (.tail _ hx)) hj, List.getElem?_set, if_neg (by have := hk i (.head _); omega)]
theorem tgt_unpack {k : Nat} {is : List Nat} (h : ∀ i ∈ is, i < k) : Tgt k (unpackTo is) := by
  constructor
  · intro d σ σ' e
    unfold unpackTo at e
    split at e
    · exact (setAll_off e).1
    · exact (setAll_off e).1
    · cases e
  · intro d σ σ' j e hj
    unfold unpackTo at e
    split at e
    · exact (setAll_off e).2 k j h hj
    · exact (setAll_off e).2 k j h hj
    · cases e
theorem Rel.weaken {C : Cx} {its own s} {σ σ' : St} (R : Rel C its own σ' s) (h : ∀ (i : Nat) (sl : Slot), σ[i]? = some sl → sl = .no ∨ σ'[i]? = some sl) : Rel C its own σ s :=
  ⟨R.ext, R.fresh, R.alloc, R.apart, R.off, R.frames, let ⟨μ, f, v⟩ := R.vars; ⟨μ, f, fun i x sl a b => by
    rcases h i sl b with rfl | q
    · trivial
    · exact v i x sl a q⟩⟩
noncomputable def σc (k : Nat) (see : List Nat) (σ : St) : St := List.replicate k .no ++ see.map (look σ)
theorem σc_noOwn {k : Nat} {see : List Nat} {σ : St} (i : Nat) (xs : List PyData) : (σc k see σ)[i]? ≠ some (.own xs) := by
  intro h
  unfold σc at h
  have := List.mem_of_getElem? h
  rcases List.mem_append.mp this with m | m
  · have := List.eq_of_mem_replicate m; cases this
  · obtain ⟨j, _, e⟩ := List.mem_map.mp m
    unfold look at e
    split at e <;> cases e
theorem tgt_weak {k : Nat} {T : PyData → St → Option St} (hT : Tgt k T) {see : List Nat} {σ σ' : St} {d : PyData} (h : T d (σc k see σ) = some σ') (i : Nat) (sl : Slot) (e : (σc k see σ)[i]? = some sl) : sl = .no ∨ σ'[i]? = some sl := by
  by_cases hi : i < k
  · left
    unfold σc at e
    rw [List.getElem?_append_left (by simpa using hi), List.getElem?_replicate_of_lt hi] at e
    exact (Option.some.inj e).symm
  · right
    rw [hT.off _ _ _ i h (by omega)]
    exact e
/-- a private list that no slot names takes new items -/
theorem Rel.bump {C : Cx} {its s a} {σ : St} {ws ws' : Array Value} {m m' : Nat} {f : Obj → Obj} {tk : Nat} (ok : C.Ok n top) (R : Rel C its [] σ s) (hm : a ∈ its) (na : a ∉ C.priv)
    (g : s.heap.get? a = some (lobj ws m)) (hf : f (lobj ws m) = lobj ws' m') :
    Rel C its [] σ { s with heap := s.heap.update a f, toks := tk } ∧ (s.heap.update a f).get? a = some (lobj ws' m') ∧ Heap.SameBut a s.heap (s.heap.update a f) := by
  have g' : (s.heap.update a f).get? a = some (lobj ws' m') := by rw [← hf]; exact Heap.get?_update_self _ g (by rw [hf]; rfl)
  have hsb : Heap.SameBut a s.heap (s.heap.update a f) := Heap.SameBut.update ..
  have aX : a ∈ C.X its [] := mem_X.mpr (.inr (.inr (.inl hm)))
  have fa : C.s0.heap.get? a = none := R.fresh a (by simp only [List.mem_append]; exact .inr (.inl hm))
  have sub := hid_same hsb aX
  have alive : ∀ b o, s.heap.get? b = some o → ∃ o', (s.heap.update a f).get? b = some o' := fun b o e => by
    by_cases z : b = a
    · exact ⟨_, by rw [z]; exact g'⟩
    · exact ⟨o, (hsb.2 b z).trans e⟩
  obtain ⟨μ, fm, v⟩ := R.vars
  refine ⟨⟨R.ext.trans_priv ⟨a, hsb, fa, tk, rfl⟩, R.fresh, fun b hb => ?_, R.apart, R.off, FunFrames_same R.frames hsb g' (by intro vs; simp [lobj]), μ, ⟨?_, fun y c hy hc => ?_⟩, fun j y sl hj hsl => ?_⟩, g', hsb⟩
  · obtain ⟨o, e⟩ := R.alloc b hb
    exact alive b o e
  · obtain ⟨mm, hn, hk⟩ := fm.ns
    exact ⟨mm, hn.sameBut hsb fun z => na (z ▸ ok.loc), hk⟩
  · obtain ⟨oc, a1, a2⟩ := fm.cell y c hy hc
    refine ⟨oc, (hsb.2 c fun z => ?_).trans a1, a2⟩
    rw [z, g] at a1; cases a1; simp [lobj] at a2
  · refine (v j y sl hj hsl).keeps sub fun a ws m _ hm _ => by cases hm
theorem Rd.chg {C : Cx} {its own own' σ s s' v d} (R : Rel C its own σ s) (hc : Chg C own own' s s') (q : Rd (C.X its own) s.heap v d) : Rd (C.X its own') s'.heap v d := q.keeps (hc.sub R)

theorem comp_turns {Cc : Cx} (ok : Cc.Ok n top) {I acc : Addr} {xs res : List PyData} {Sti : Nat → Heap → Prop} {s₄ : Shared} {k : Nat} {see : List Nat} {σ : St} {tgt elt iter : Expr} {ifs : List Expr} {scope : Scope} {pos : Pos} {T : PyData → St → Option St} {test : DB} {de : DE}
    {Rs : Result → Shared → Prop} (hT : Tgt k T) (ht : ST prog w Cc tgt T) (hts : STs prog w Cc ifs test) (he : SE prog w Cc elt de) (nI : I ∉ Cc.priv) (na : acc ∉ Cc.priv) (nIa : I ≠ acc) (hlen : xs.length ≤ listLine)
    (R₄ : Rel Cc [I, acc] [] (σc k see σ) s₄) (iter' : Iter prog w Cc.A (Cc.X [acc] []) I s₄.heap xs Sti) (st0 : Sti 0 s₄.heap) (ga : s₄.heap.get? acc = some (lobj #[] 0)) (hc : comp T test de (σc k see σ) xs = some res)
    (h : ∀ ws m s', Rel Cc [acc] [] (σc k see σ) s' → s'.heap.get? acc = some (lobj ws m) → RdAll (Cc.X [acc] []) s'.heap ws.toList res → Rs (.ok .next) s') :
    codeAny (model prog w) Cc.A (.compLoop (.ListComp elt [⟨tgt, iter, ifs, 0⟩] scope pos) 0 (.ref I) (.ref acc) Cc.env) Rs s₄ := by
  obtain ⟨fp, P, W, hfp, hP⟩ := iter'.walks
  have XI : ∀ a, a ∈ Cc.X [I, acc] [] ↔ a = I ∨ a ∈ Cc.X [acc] [] := fun a => by
    rw [mem_X, mem_X]; simp only [List.mem_cons]
    constructor
    · rintro (z | z | (z | z) | z)
      · exact .inr (.inl z)
      · exact .inr (.inr (.inl z))
      · exact .inl z
      · exact .inr (.inr (.inr (.inl z)))
      · exact .inr (.inr (.inr (.inr z)))
    · rintro (z | z | z | z | z)
      · exact .inr (.inr (.inl (.inl z)))
      · exact .inl z
      · exact .inr (.inl z)
      · exact .inr (.inr (.inl (.inr z)))
      · exact .inr (.inr (.inr z))
  have accX : acc ∈ Cc.X [acc] [] := mem_X.mpr (.inr (.inr (.inl (.head _))))
  have iX : I ∈ Cc.X [I, acc] [] := (XI I).mpr (.inl rfl)
  have aX : acc ∈ Cc.X [I, acc] [] := (XI acc).mpr (.inr accX)
  have hP' : ∀ j v, j < xs.length → P j v → ∃ d, xs[j]? = some d ∧ Rd (Cc.X [I, acc] []) s₄.heap v d := fun j v hj hp => by
    obtain ⟨d, hd, q⟩ := hP j v hj hp
    refine ⟨d, hd, q.less fun a ha => ?_⟩
    rcases (XI a).mp ha with z | z
    · exact z ▸ List.mem_cons_self
    · exact List.mem_cons_of_mem _ z
  refine compLoop_any (fun m s' => ∃ j ws mm out rest, m = xs.length - j ∧ j ≤ xs.length ∧ Rel Cc [I, acc] [] (σc k see σ) s' ∧ Sti j s'.heap ∧ Sub (hideAll s₄.heap (Cc.X [I, acc] [])) (hideAll s'.heap (Cc.X [I, acc] [])) ∧
      s'.heap.get? acc = some (lobj ws mm) ∧ RdAll (Cc.X [I, acc] []) s'.heap ws.toList out ∧ out.length ≤ j ∧ comp T test de (σc k see σ) (xs.drop j) = some rest ∧ out ++ rest = res)
    ?_ (xs.length - 0) ⟨0, #[], 0, [], res, rfl, Nat.zero_le _, R₄, st0, Sub.rf, ga, RdAll.nil, Nat.le_refl _, by simpa using hc, rfl⟩
  rintro m s' ⟨j, ws, mm, out, rest, rfl, hj, R', stj, hsub, g', q', hol, hcm, hres⟩
  obtain ⟨oJ, TJ, vsJ, gJ, cJ, dJ, bJ⟩ := iter'.obj j _ stj
  by_cases hjl : j < xs.length
  · refine W.item j s' _ _ hjl stj fun v h' tk hv st' kk => ?_
    have k' : ∀ b o, b ≠ I → s'.heap.get? b = some o → h'.get? b = some o := fun b o hb g => kk b o (by simpa using hb) g
    obtain ⟨oK, TK, vsK, gK, cK, dK, bK⟩ := iter'.obj (j + 1) _ st'
    have R₃ := R'.tick (tk := tk) ok gJ dJ gK k'
    have sub₃ : Sub (hideAll s'.heap (Cc.X [I, acc] [])) (hideAll h' (Cc.X [I, acc] [])) := hid_sub fun b o nb g => ⟨k' b o (fun z => nb (z ▸ iX)) g, nb⟩
    have g₃ : h'.get? acc = some (lobj ws mm) := k' _ _ (Ne.symm nIa) g'
    obtain ⟨d, hxd, rv⟩ := hP' j v hjl hv
    have hdrop : xs.drop j = d :: xs.drop (j + 1) := by
      rw [List.drop_eq_getElem_cons hjl]
      congr 1
      have := List.getElem?_eq_getElem hjl
      rw [this] at hxd; exact Option.some.inj hxd
    rw [hdrop, comp] at hcm
    have rv' : Rd (Cc.X [I, acc] []) h' v d := rv.keeps (hsub.trans sub₃)
    refine owned_go (s := { s' with heap := h', toks := tk }) gK cK dK bK ?_
    split at hcm
    · rename_i σ₁ hσ₁
      refine ht _ _ _ _ _ _ _ _ _ R₃ rv' hσ₁ fun s₅ R₅ hc₅ => ?_
      have sub₅ : Sub (hideAll h' (Cc.X [I, acc] [])) (hideAll s₅.heap (Cc.X [I, acc] [])) := hc₅.sub R₃
      have g₅ : s₅.heap.get? acc = some (lobj ws mm) := hc₅.pres _ _ g₃ na (by simp)
      have st₅ : Sti (j + 1) s₅.heap := W.frame _ _ _ st' fun b hb o g => hc₅.pres b o g (by
        rcases hfp b hb with z | ⟨z, _⟩
        · exact z ▸ nI
        · exact fun m => z (mem_X.mpr (.inr (.inl m)))) (by simp)
      have Rw : ∀ {s₆}, Rel Cc [I, acc] [] σ₁ s₆ → Rel Cc [I, acc] [] (σc k see σ) s₆ := fun R₆ => R₆.weaken (tgt_weak hT hσ₁)
      split at hcm
      · rename_i htrue
        refine hts _ _ _ _ _ _ _ R₅ htrue fun s₆ e₆ => ?_
        rw [if_pos rfl]
        split at hcm
        · rename_i dx hdx
          split at hcm
          · rename_i ds hds
            cases hcm
            refine he _ _ _ _ _ _ _ (R₅.grow e₆) hdx fun x s₇ e₇ rx => ?_
            have R₇ := Rw ((R₅.grow e₆).grow e₇)
            have g₇ := e₇.keep _ _ (e₆.keep _ _ g₅)
            have q₇ : RdAll (Cc.X [I, acc] []) s₇.heap ws.toList out := ((((q'.keeps sub₃).keeps sub₅).grow e₆.keep).grow e₇.keep)
            have ls := q₇.length
            rw [Array.length_toList] at ls
            refine append_at g₇ (by rw [ls]; exact listLine_le (by omega)) ?_
            obtain ⟨R₈, g₈, hsb⟩ := R₇.bump (f := Obj.mapSeq (·.push x)) (ws' := ws.push x) (tk := s₇.toks) ok (.tail _ (.head _)) na g₇ rfl
            have sub₈ := hid_same hsb aX
            refine ⟨_, by omega, j + 1, ws.push x, _, out ++ [dx], ds, rfl, hjl, R₈, ?_, ?_, g₈, ?_, by simp; omega, hds, by rw [List.append_assoc]; exact hres⟩
            · refine W.frame _ _ _ st₅ fun b hb o g => (hsb.2 b fun z => ?_).trans (e₇.keep _ _ (e₆.keep _ _ g))
              rcases hfp b hb with z' | ⟨z', _⟩
              · exact nIa (z'.symm.trans z)
              · exact z' (z ▸ accX)
            · refine ((hsub.trans sub₃).trans sub₅).trans (Sub.trans (hid_sub fun b o nb g => ⟨e₇.keep _ _ (e₆.keep _ _ g), nb⟩) sub₈)
            · rw [Array.toList_push]
              exact (q₇.append (RdAll.cons rx RdAll.nil)).keeps sub₈
          · cases hcm
        · cases hcm
      · rename_i hfalse
        refine hts _ _ _ _ _ _ _ R₅ hfalse fun s₆ e₆ => ?_
        rw [if_neg Bool.false_ne_true]
        refine ⟨_, by omega, j + 1, ws, mm, out, rest, rfl, hjl, Rw (R₅.grow e₆), ?_, ?_, e₆.keep _ _ g₅, (((q'.keeps sub₃).keeps sub₅).grow e₆.keep), by omega, hcm, hres⟩
        · exact W.frame _ _ _ st₅ fun b hb o g => e₆.keep _ _ g
        · exact ((hsub.trans sub₃).trans sub₅).trans (hid_sub fun b o nb g => ⟨e₆.keep _ _ g, nb⟩)
      · cases hcm
    · cases hcm
  · have hje : j = xs.length := by omega
    subst hje
    refine W.done s' _ _ stj fun h' tk kk => ?_
    have k' : ∀ b o, b ≠ I → s'.heap.get? b = some o → h'.get? b = some o := fun b o hb g => kk b o (by simpa using hb) g
    rw [List.drop_eq_nil_of_le (Nat.le_refl _), comp] at hcm
    cases hcm
    rw [List.append_nil] at hres
    subst hres
    refine h ws mm _ (R'.endIt ok ⟨nI, by simp [nIa]⟩ gJ dJ k') (k' _ _ (Ne.symm nIa) g') ?_
    exact q'.keeps (hid_sub fun b o nb g => ⟨k' b o (fun z => nb (z ▸ iX)) g, fun m => nb ((XI b).mpr (.inr m))⟩)
end
end Mine
end
section
namespace Mine
open PySem PySem.W PySem.Calls PyProof.Rows
open PySem.SeqAt (shaped)
section
variable {prog : Program} {w : World} {C : Cx} {n : Nat} {top : Heap → Prop}

structure TopP (top : Heap → Prop) : Prop where
  mono : ∀ g g', Sub g g' → top g → top g'
  lim : ∀ g, top g → g.NoLimit
  seer : ∀ g, top g → g.NoSeer

/-- how a comprehension's block lies in its frame -/
structure CompIn (C : Cx) (scope : Scope) (cl : List (Str × Addr)) (k : Nat) (see : List Nat) (names : List Str) : Prop where
  kind : scope.kind = .function
  nocell : ∀ x ∈ scope.names, x.2 ≠ .cell
  hnames : ∀ x ∈ scope.names, x.2 = .local → scope.names.lookup x.1 = some .local
  clos : closureFor scope C.env = pure cl
  cells : ∀ p ∈ cl, C.env.cells.lookup p.1 = some p.2 ∧ C.env.kindOf p.1 ≠ some .local
  clnd : (cl.map (·.1)).Nodup
  nd : names.Nodup
  seen : ∀ j i, see[j]? = some i → ∃ x, names[k + j]? = some x ∧ C.names[i]? = some x ∧ (relabel scope C.env).names.lookup x ≠ some .local
theorem look_slot {its own σ s} {h' : Heap} {X' : List Addr} {i k : Nat} {v : Option Value} {own' : List (Nat × Addr)} (hs : ∀ sl, σ[i]? = some sl → SlotIs (C.X its own) s own i v sl) (sub : Sub (hideAll s (C.X its own)) (hideAll h' X')) : SlotIs X' h' own' k v (look σ i) := by
  unfold look
  split
  · rename_i d e
    obtain ⟨u, e', r⟩ := hs _ e
    exact ⟨u, e', r.keeps sub⟩
  · rename_i l e
    obtain ⟨u, e', r⟩ := hs _ e
    exact ⟨u, e', r.keeps sub⟩
  · trivial
theorem comp_ok (tp : TopP top) (ok : C.Ok n top) {its own σ s scope cl k see names} (R : Rel C its own σ s) (ci : CompIn C scope cl k see names) {L : Addr} (hL : s.heap.get? L = none) : (C.comp scope cl L names (C.X its own) s).Ok n top := by
  have call : ∀ q ∈ cl, ∃ o, s.heap.get? q.2 = some o := fun q hq => by
    rcases ok.cin (q.1, q.2) (mem_lookup (ci.cells q hq).1) with m | ⟨o, g⟩
    · exact R.alloc _ (mem_X.mpr (.inr (.inl m)))
    · exact ⟨o, R.ext.keep _ _ g⟩
  have tops : top (hideAll s.heap (C.X its own)) := tp.mono _ _ R.seen ok.top
  exact {
    room := ok.room, kind := ci.kind, glob := ok.glob, bi := ok.bi, loc := List.mem_singleton.mpr rfl, x0 := R.alloc,
    bs := fun b o e => R.ext.keep _ _ (ok.bs b o e), nd := ci.nd,
    cin := fun q hq => .inr (call q hq),
    apart := by
      have hp : ∀ (l : List (Str × Addr)), (∀ p ∈ l, p ∈ cl) → (l.map (·.1)).Nodup → l.Pairwise fun x y => x.2 ≠ y.2 := by
        intro l
        induction l with
        | nil => intro _ _; exact List.Pairwise.nil
        | cons p r ih =>
          intro hm hn
          rw [List.map_cons, List.nodup_cons] at hn
          refine List.pairwise_cons.mpr ⟨fun q hq e => ?_, ih (fun x hx => hm x (.tail _ hx)) hn.2⟩
          have h1 := mem_lookup (ci.cells p (hm p (.head _))).1
          have h2 := mem_lookup (ci.cells q (hm q (.tail _ hq))).1
          rw [e] at h1
          exact hn.1 (List.mem_map.mpr ⟨q, hq, (pair_addr ok.apart h1 h2).symm⟩)
      exact hp cl (fun _ h => h) ci.clnd
    off := fun q hq e => by
      obtain ⟨o, g⟩ := call q hq
      have e' : q.2 = L := e
      rw [e', hL] at g; cases g
    top := tops, lim := tp.lim _ tops, seer := tp.seer _ tops, frames := ok.frames, hd := ok.hd }
theorem lt_sz {h : Heap} {b : Nat} {o : Obj} (e : h.get? b = some o) : b < h.objs.size := Heap.lt_size e
theorem addr_ne {a b : Nat} (h : a < b ∨ b < a) : (a : Addr) ≠ b := by
  intro e
  have e' : (a : Nat) = b := e
  omega
/-- the comprehension, its list handed on -/
theorem comp_core (tp : TopP top) (ok : C.Ok n top) {its own σ s xs res} {elt tgt iter : Expr} {ifs : List Expr} {scope : Scope} {cl : List (Str × Addr)} {k : Nat} {see : List Nat} {names : List Str} {p pos : Pos} {T : PyData → St → Option St} {src : DL} {test : DB} {de : DE}
    {use : Option (Value → Sem Unit)} {Q : Value → Shared → Prop} {E : Value → Shared → Prop} (R : Rel C its own σ s) (ci : CompIn C scope cl k see names) (hT : Tgt k T) (hi : SI prog w C iter src)
    (hin : ∀ L X s', (C.comp scope cl L names X s').Ok n top → ST prog w (C.comp scope cl L names X s') tgt T ∧ STs prog w (C.comp scope cl L names X s') ifs test ∧ SE prog w (C.comp scope cl L names X s') elt de)
    (hsrc : src σ = some xs) (hlen : xs.length ≤ listLine) (hc : comp T test de (σc k see σ) xs = some res)
    (h : ∀ acc L ws m mL s', Ext s s' → s.heap.get? acc = none → s.heap.get? L = none → acc ≠ L → s'.heap.get? acc = some (lobj ws m) → RdAll (L :: acc :: C.X its own) s'.heap ws.toList res → s'.heap.Ns L mL → compPost (model prog w) C.A E use Q (.ref acc) L (.ok .next) s')
    (hs : ∀ x, foldedSetIterable iter C.env x = pure x := by intro _; rfl) :
    wpAny (model prog w) C.A (comprehension (.ListComp elt [⟨tgt, iter, ifs, 0⟩] scope pos) scope C.env p (newList []) false (eval iter C.env) use) Q E s := by
  refine wpAny_comprehension_free (g := ⟨tgt, iter, ifs, 0⟩) (gs := []) rfl hs ci.clos ci.kind ci.hnames ?_
  refine hi _ _ _ _ _ _ _ R hsrc fun x s₁ e₁ sx => ?_
  refine iter_src (prog := prog) (w := w) ok.room.handled (R.grow e₁).alloc sx fun I Sti s₂ e₂ hI iter' st0 => ?_
  refine wpAny_newList (items := []) ?_ (by decide)
  refine wpAny_newFunctionEnv (s := { s₂ with heap := s₂.heap.push { cls := .type "list", data := .seq #[] } }) ci.nocell (fun _ hx => nomatch hx) (fun h₄ hns hsb => ?_) ci.kind
  generalize hacc : s₂.heap.objs.size = acc at *
  have szp : (s₂.heap.push { cls := .type "list", data := .seq #[] }).objs.size = acc + 1 := by rw [Heap.size_push, hacc]
  show codeAny (model prog w) C.A (.compStart (.ListComp elt [⟨tgt, iter, ifs, 0⟩] scope pos) 0 (.ref I) (.ref acc) (compEnvC scope cl (s₂.heap.push { cls := .type "list", data := .seq #[] }).objs.size C.env)) _ _
  have hnn : ∀ (b : Nat) o, s.heap.get? b = some o → b < acc := fun b o e => by rw [← hacc]; exact lt_sz (e₂.keep _ _ (e₁.keep _ _ e))
  have none_of : ∀ b : Nat, acc ≤ b → s.heap.get? b = none := fun b hb => by
    cases e : s.heap.get? b with
    | none => rfl
    | some o => have := hnn b o e; omega
  have keep4 : ∀ b o, s₂.heap.get? b = some o → h₄.get? b = some o := fun b o e => by
    have hb : @LT.lt Nat _ b acc := by rw [← hacc]; exact lt_sz e
    refine hsb.extBut b o (by rw [szp]; exact addr_ne (.inl (by omega))) (Heap.get?_push_of_some _ (Heap.get?_push_of_some _ e))
  have ga : h₄.get? acc = some (lobj #[] 0) := by
    refine hsb.extBut acc _ (by rw [szp]; exact addr_ne (.inl (by omega))) (Heap.get?_push_of_some _ ?_)
    rw [← hacc]; exact Heap.get?_push_size _ rfl
  rw [szp] at hns ⊢
  generalize hLL : acc + 1 = L at *
  have hLn : s.heap.get? L = none := none_of L (by omega)
  have han : s.heap.get? acc = none := none_of acc (Nat.le_refl _)
  have hIn : s.heap.get? I = none := by
    cases e : s.heap.get? I with
    | none => rfl
    | some o => rw [e₁.keep _ _ e] at hI; cases hI
  obtain ⟨oI, TI, vsI, gI, cI, dI, bI⟩ := iter'.obj 0 _ st0
  have hIlt : @LT.lt Nat _ I acc := by rw [← hacc]; exact lt_sz gI
  have cok := comp_ok tp ok R ci hLn
  generalize hCc : C.comp scope cl L names (C.X its own) s = Cc at cok
  have hA : Cc.A = C.A := by rw [← hCc]; rfl
  have hE : Cc.env = compEnvC scope cl L C.env := by rw [← hCc]; rfl
  have hpr : Cc.priv = [L] := by rw [← hCc]; rfl
  have hX0 : Cc.X0 = C.X its own := by rw [← hCc]; rfl
  have hs0 : Cc.s0 = s := by rw [← hCc]; rfl
  have hnm : Cc.names = names := by rw [← hCc]; rfl
  obtain ⟨j1, j2, j3⟩ := hin L (C.X its own) s (hCc ▸ cok)
  rw [hCc] at j1 j2 j3
  have ext4 : Ext s { s₂ with heap := h₄, toks := s₂.toks + 0 } := (e₁.trans e₂).trans ⟨⟨_, _, rfl⟩, keep4⟩
  have XC : ∀ b, b ∈ Cc.X [I, acc] [] ↔ b ∈ C.X its own ∨ b = L ∨ b = I ∨ b = acc := fun b => by
    rw [mem_X, hX0, hpr]; simp
  have XC1 : ∀ b, b ∈ Cc.X [acc] [] ↔ b ∈ C.X its own ∨ b = L ∨ b = acc := fun b => by
    rw [mem_X, hX0, hpr]; simp
  have sub4 : Sub (hideAll s.heap (C.X its own)) (hideAll h₄ (Cc.X [I, acc] [])) := hid_sub fun b o nb e => ⟨ext4.keep b o e, fun m => by
    rcases (XC b).mp m with z | z | z | z
    · exact nb z
    · rw [z, hLn] at e; cases e
    · rw [z, hIn] at e; cases e
    · rw [z, han] at e; cases e⟩
  have R₄ : Rel Cc [I, acc] [] (σc k see σ) { s₂ with heap := h₄, toks := s₂.toks + 0 } := by
    obtain ⟨μ, f, v⟩ := R.vars
    refine ⟨hs0 ▸ ext4, fun b hb => ?_, fun b hb => ?_, List.Pairwise.nil, (fun p hp => nomatch hp), ?_, fun y => if Cc.env.kindOf y = some .local then none else μ y, ⟨⟨_, by rw [hE]; exact hns, fun y hy => ?_⟩, fun y c hy hyc => ?_⟩, fun i y sl hi hsl => ?_⟩
    · rw [hs0]
      rw [hpr] at hb
      simp only [List.mem_append, List.mem_cons, List.not_mem_nil, or_false, List.map_nil, List.singleton_append] at hb
      rcases hb with z | z | z
      · rw [z]; exact hLn
      · rw [z]; exact hIn
      · rw [z]; exact han
    · rcases (XC b).mp hb with z | z | z | z
      · obtain ⟨o, g⟩ := R.alloc b z; exact ⟨o, ext4.keep _ _ g⟩
      · obtain ⟨oL, _, _, gL, _⟩ := hns; exact ⟨oL, z ▸ gL⟩
      · exact ⟨oI, z ▸ keep4 _ _ gI⟩
      · exact ⟨_, z ▸ ga⟩
    · have : Cc.base = C.base ∧ Cc.frs = C.frs := by rw [← hCc]; exact ⟨rfl, rfl⟩
      rw [this.1, this.2]
      exact FunFrames_keeps R.frames ext4.keep
    · rw [if_pos hy]; rfl
    · rw [if_neg hy]
      rw [hE] at hyc
      have := ci.cells (y, c) (mem_lookup hyc)
      exact (f.cell y c this.2 this.1).keeps ext4.keep
    · rw [hnm] at hi
      by_cases hik : i < k
      · unfold σc at hsl
        rw [List.getElem?_append_left (by simpa using hik), List.getElem?_replicate_of_lt hik] at hsl
        cases hsl; trivial
      · unfold σc at hsl
        rw [List.getElem?_append_right (by simp; omega)] at hsl
        simp only [List.length_replicate, List.getElem?_map] at hsl
        obtain ⟨i', hi', rfl⟩ := Option.map_eq_some_iff.mp hsl
        obtain ⟨x', hx1, hx2, hx3⟩ := ci.seen _ _ hi'
        rw [show k + (i - k) = i by omega, hi] at hx1
        cases hx1
        show SlotIs _ _ _ _ (if Cc.env.kindOf y = some .local then none else μ y) _
        rw [if_neg (by rw [hE]; exact hx3)]
        exact look_slot (fun sl hsl => v i' y sl hx2 hsl) sub4
  have it4 : Iter prog w Cc.A (Cc.X [acc] []) I h₄ xs Sti := by
    rw [hA]
    obtain ⟨fp, P, W, hfp, hP⟩ := iter'.walks
    refine ⟨⟨fp, P, W, fun b hb => ?_, fun j v hj hp => ?_⟩, iter'.obj⟩
    · rcases hfp b hb with z | ⟨z, o, g⟩
      · exact .inl z
      · refine .inr ⟨fun m => ?_, o, keep4 _ _ g⟩
        have hb : @LT.lt Nat _ b acc := by rw [← hacc]; exact lt_sz g
        rcases (XC1 b).mp m with q | q | q
        · exact z q
        · exact addr_ne (.inl (by omega)) q
        · exact addr_ne (.inl hb) q
    · obtain ⟨d, hd, q⟩ := hP j v hj hp
      refine ⟨d, hd, q.keeps (hid_sub fun b o nb e => ⟨keep4 _ _ e, fun m => ?_⟩)⟩
      have hb : @LT.lt Nat _ b acc := by rw [← hacc]; exact lt_sz e
      rcases List.mem_cons.mp m with z | z
      · exact nb (z ▸ List.mem_cons_self)
      · rcases (XC1 b).mp z with q | q | q
        · exact nb (List.mem_cons_of_mem _ q)
        · exact addr_ne (.inl (by omega)) q
        · exact addr_ne (.inl hb) q
  have st4 : Sti 0 h₄ := by
    obtain ⟨fp, P, W, hfp, hP⟩ := iter'.walks
    exact W.frame _ _ _ st0 fun b hb o g => keep4 _ _ g
  have fin : codeAny (model prog w) Cc.A (.compLoop (.ListComp elt [⟨tgt, iter, ifs, 0⟩] scope pos) 0 (.ref I) (.ref acc) Cc.env) (compPost (model prog w) C.A E use Q (.ref acc) L) { s₂ with heap := h₄, toks := s₂.toks + 0 } := by
    refine comp_turns cok hT j1 j2 j3 (by rw [hpr, List.mem_singleton]; exact addr_ne (.inl (by omega))) (by rw [hpr, List.mem_singleton]; exact addr_ne (.inl (by omega))) (addr_ne (.inl hIlt)) hlen R₄ it4 st4 ga hc fun ws m s' R' g q => ?_
    obtain ⟨μ, f, v⟩ := R'.vars
    obtain ⟨mL, hnL, _⟩ := f.ns
    rw [hE] at hnL
    refine h acc L ws m mL s' (hs0 ▸ R'.ext) han hLn (addr_ne (.inl (by omega))) g (q.less fun b hb => ?_) hnL
    rcases List.mem_cons.mp hb with z | hb
    · exact (XC1 b).mpr (.inr (.inl z))
    · rcases List.mem_cons.mp hb with z | hb
      · exact (XC1 b).mpr (.inr (.inr z))
      · exact (XC1 b).mpr (.inl hb)
  rw [hA, hE] at fin
  refine codeAny_compStart_list fin ?_
  obtain ⟨fp, P, W, hfp, hP⟩ := iter'.walks
  exact W.self 0 _ _ _ st4 fin
end
end Mine
end
section
namespace Mine
open PySem PySem.W PySem.Calls PyProof.Rows
open PySem.SeqAt (shaped)
section
variable {prog : Program} {w : World} {C : Cx} {n : Nat} {top : Heap → Prop}

theorem lComp_some {k : Nat} {see : List Nat} {T : PyData → St → Option St} {src : DL} {test : DB} {de : DE} {σ : St} {res : List PyData} (h : lComp k see T src test de σ = some res) :
    ∃ xs, src σ = some xs ∧ xs.length ≤ listLine ∧ comp T test de (σc k see σ) xs = some res := by
  unfold lComp at h
  split at h
  · rename_i xs hx
    split at h
    · exact ⟨xs, hx, by assumption, h⟩
    · cases h
  · cases h
/-- what is needed of a comprehension, apart from where it stands -/
structure CompD (prog : Program) (w : World) (C : Cx) (n : Nat) (top : Heap → Prop) (elt tgt iter : Expr) (ifs : List Expr) (scope : Scope) (k : Nat) (see : List Nat) (T : PyData → St → Option St) (src : DL) (test : DB) (de : DE) : Prop where
  cl : ∃ cl names, CompIn C scope cl k see names ∧ ∀ L X s', (C.comp scope cl L names X s').Ok n top → ST prog w (C.comp scope cl L names X s') tgt T ∧ STs prog w (C.comp scope cl L names X s') ifs test ∧ SE prog w (C.comp scope cl L names X s') elt de
  tgt : Tgt k T
  src : SI prog w C iter src
  fold : ∀ x, foldedSetIterable iter C.env x = pure x
theorem seo_comp (tp : TopP top) (ok : C.Ok n top) {elt tgt iter : Expr} {ifs : List Expr} {scope : Scope} {k : Nat} {see : List Nat} {pos : Pos} {T : PyData → St → Option St} {src : DL} {test : DB} {de : DE}
    (c : CompD prog w C n top elt tgt iter ifs scope k see T src test de) : SEo prog w C (.ListComp elt [⟨tgt, iter, ifs, 0⟩] scope pos) (lComp k see T src test de) := by
  intro its own σ s res Q E R hd h
  obtain ⟨xs, hsrc, hlen, hc⟩ := lComp_some hd
  obtain ⟨cl, names, ci, hin⟩ := c.cl
  rw [eval_ListComp]
  refine comp_core (use := none) tp ok R ci c.tgt c.src hin hsrc hlen hc (fun acc L ws m mL s' e ha hL ne g q hn => ?_) c.fold
  refine ⟨mL, hn, fun h' hsb => ?_⟩
  refine h acc ws m { s' with heap := h' } ⟨?_, fun b o gb => (hsb.2 b fun z => ?_).trans (e.keep b o gb)⟩ ha ((hsb.2 _ ne).trans g) (q.keeps (hid_sub fun b o nb gb => ⟨(hsb.2 b fun z => nb (z ▸ List.mem_cons_self)).trans gb, fun m => nb (List.mem_cons_of_mem _ m)⟩))
  · obtain ⟨⟨h1, t1, rfl⟩, _⟩ := e; exact ⟨_, _, rfl⟩
  · rw [z, hL] at gb; cases gb
theorem FunFrames_but {h h1 h' base : Heap} {l : List Env} {L : Addr} (x0 : h.FunFrames base l) (hL : h.get? L = none) (x : h1.FunFrames base l) (k : ∀ b o, b ≠ L → h1.get? b = some o → h'.get? b = some o) : h'.FunFrames base l := by
  induction l with
  | nil => trivial
  | cons env r ih =>
    obtain ⟨a1, ⟨L0, o0, a2, a3, a4, a5⟩, a6⟩ := x0
    obtain ⟨b1, ⟨L1, o1, b2, b3, b4, b5⟩, b6⟩ := x
    refine ⟨b1, ⟨L1, o1, b2, b3, k L1 o1 (fun z => ?_) b4, b5⟩, ih a6 b6⟩
    have : L0 = L1 := by rw [a2] at b2; exact Option.some.inj b2
    rw [this, z, hL] at a4; cases a4
/-- behind the store the comprehension's own block is let go -/
theorem Rel.letGo {its own σ s₀ σ₀ own₀ s h' L} (ok : C.Ok n top) (R₀ : Rel C its own₀ σ₀ s₀) (hL : s₀.heap.get? L = none) (R : Rel C (L :: its) own σ s) (hsb : Heap.SameBut L s.heap h') (nL : L ∉ C.priv ∧ L ∉ its) : Rel C its own σ { s with heap := h' } := by
  have fL : C.s0.heap.get? L = none := R.fresh L (by simp)
  have R' := R.dropIt
  have cellne : ∀ q ∈ C.env.cells, q.2 ≠ L := fun q hq z => by
    rcases ok.cin q hq with m | ⟨o, g⟩
    · exact nL.1 (z ▸ m)
    · rw [z, fL] at g; cases g
  have ne : ∀ x ∈ C.X its own, x ≠ L := fun x hx z => by
    subst z
    rw [mem_X] at hx
    rcases hx with m | m | m | m
    · obtain ⟨o, e⟩ := ok.x0 x m; rw [fL] at e; cases e
    · exact nL.1 m
    · exact nL.2 m
    · obtain ⟨p, hp, rfl⟩ := List.mem_map.mp m
      exact (R.off p hp).2.1 (.head _)
  have k : ∀ b o, b ≠ L → s.heap.get? b = some o → h'.get? b = some o := fun b o hb g => (hsb.2 b hb).trans g
  refine ⟨⟨?_, fun b o e => k b o (fun z => ?_) (R.ext.keep b o e)⟩, R'.fresh, fun x hx => ?_, R'.apart, R'.off, FunFrames_but R₀.frames hL R.frames k, ?_⟩
  · obtain ⟨⟨h, t, rfl⟩, _⟩ := R.ext; exact ⟨_, _, rfl⟩
  · rw [z, fL] at e; cases e
  · obtain ⟨o, e⟩ := R'.alloc x hx; exact ⟨o, k x o (ne x hx) e⟩
  · obtain ⟨μ, f, v⟩ := R.vars
    refine ⟨μ, ⟨?_, fun y c hy hc => ?_⟩, fun i y sl a b => (v i y sl a b).keeps (hid_sub fun b o nb q => ⟨k b o (fun z => nb (mem_X.mpr (.inr (.inr (.inl (z ▸ .head _)))))) q, fun m => nb ?_⟩) fun a ws m _ hm g => ⟨hm, k _ _ (fun z => (R.off _ hm).2.1 (z ▸ .head _)) g⟩⟩
    · obtain ⟨m, hn, b⟩ := f.ns
      exact ⟨m, hn.sameBut hsb fun z => nL.1 (z ▸ ok.loc), b⟩
    · exact (f.cell y c hy hc).sameBut hsb (cellne _ (mem_lookup hc))
    · rw [mem_X] at m ⊢
      rcases m with m | m | m | m
      · exact .inl m
      · exact .inr (.inl m)
      · exact .inr (.inr (.inl (.tail _ m)))
      · exact .inr (.inr (.inr m))
theorem Rel.addBoth {its own σ s s' a i L} {o oL : Obj} (ok : C.Ok n top) (R : Rel C its own σ s) (e : Ext s s') (ha : s.heap.get? a = none) (hL : s.heap.get? L = none) (ne : a ≠ L) (g : s'.heap.get? a = some o) (gL : s'.heap.get? L = some oL) : Rel C (L :: its) ((i, a) :: own) σ s' := by
  have R1 := R.addOwn (i := i) ok e ha g
  have R2 := R.addIt ok e hL gL
  have mX : ∀ b, b ∈ C.X (L :: its) ((i, a) :: own) → b = L ∨ b = a ∨ b ∈ C.X its own := fun b hb => by
    rw [mem_X] at hb
    rcases hb with m | m | m | m
    · exact .inr (.inr (mem_X.mpr (.inl m)))
    · exact .inr (.inr (mem_X.mpr (.inr (.inl m))))
    · rcases List.mem_cons.mp m with z | z
      · exact .inl z
      · exact .inr (.inr (mem_X.mpr (.inr (.inr (.inl z)))))
    · rcases List.mem_cons.mp m with z | z
      · exact .inr (.inl z)
      · exact .inr (.inr (mem_X.mpr (.inr (.inr (.inr z)))))
  refine ⟨R1.ext, fun x hx => ?_, fun x hx => ?_, R1.apart, fun p hp => ⟨(R1.off p hp).1, fun m => ?_, (R1.off p hp).2.2⟩, R1.frames, ?_⟩
  · simp only [List.mem_append, List.mem_cons] at hx
    rcases hx with hx | (rfl | hx) | hx
    · exact R1.fresh x (by simp [hx])
    · exact R2.fresh x (by simp)
    · exact R1.fresh x (by simp [hx])
    · exact R1.fresh x (by simp only [List.mem_append]; exact .inr (.inr hx))
  · rcases mX x hx with z | z | z
    · exact ⟨oL, z ▸ gL⟩
    · exact ⟨o, z ▸ g⟩
    · obtain ⟨o, q⟩ := R.alloc x z; exact ⟨o, e.keep _ _ q⟩
  · rcases List.mem_cons.mp m with z | z
    · rcases List.mem_cons.mp hp with rfl | hp
      · exact ne z
      · exact (R2.off p hp).2.1 (z ▸ .head _)
    · exact (R1.off p hp).2.1 z
  · obtain ⟨μ, f, v⟩ := R.vars
    refine ⟨μ, f.grow e.keep, fun i y sl a' b => (v i y sl a' b).keeps (hid_sub fun b o nb q => ⟨e.keep b o q, fun m => ?_⟩) fun a ws m _ hm g => ⟨.tail _ hm, e.keep _ _ g⟩⟩
    rcases mX b m with z | z | z
    · rw [z, hL] at q; cases q
    · rw [z, ha] at q; cases q
    · exact nb z
theorem comp_store (tp : TopP top) (ok : C.Ok n top) {i : Nat} {x : Str} {elt tgt iter : Expr} {ifs : List Expr} {scope : Scope} {k : Nat} {see : List Nat} {p pos cpos : Pos} {T : PyData → St → Option St} {src : DL} {test : DB} {de : DE}
    (hx : C.names[i]? = some x) (hs : storeOk C x = true) (c : CompD prog w C n top elt tgt iter ifs scope k see T src test de)
    (hsw : swapsWith (.ListComp elt [⟨tgt, iter, ifs, 0⟩] scope cpos) (some (.Name x p)) pos.line C.env = pure true := by rfl)
    {its own σ s res} {Q : Flow → Shared → Prop} {E : Value → Shared → Prop} (R : Rel C its own σ s) (hd : lComp k see T src test de σ = some res) (own? : Bool)
    (h : ∀ f s' own', OutIs C its own' s' (.next (σ.set i (if own? then .own res else .val (.list res)))) f → Chg C own own' s s' → Q f s') :
    wpAny (model prog w) C.A (exec (.Assign [.Name x p] (.ListComp elt [⟨tgt, iter, ifs, 0⟩] scope cpos) pos) C.env) Q E s := by
  obtain ⟨xs, hsrc, hlen, hc⟩ := lComp_some hd
  obtain ⟨cl, names, ci, hin⟩ := c.cl
  rw [exec_Assign_Name_used _ _ _ _ hsw]
  refine wpAny_bind (wpAny_standAt (wpAny_bind ?_))
  show wpAny _ _ (comprehension (.ListComp elt [⟨tgt, iter, ifs, 0⟩] scope cpos) scope C.env iter.pos (newList []) false (eval iter C.env) (some (assign (.Name x p) C.env)) >>= fun _ => pure ()) _ _ _
  refine wpAny_bind ?_
  refine comp_core (use := some (assign (.Name x p) C.env)) tp ok R ci c.tgt c.src hin hsrc hlen hc (fun acc L ws m mL s' e ha hL ne g q hn => ?_) c.fold
  show wpAny _ _ (assign (.Name x p) C.env (.ref acc)) _ _ _
  obtain ⟨oL, es, ep, gL, _⟩ := id hn
  have nLX : L ∉ C.X its own := fun m => by obtain ⟨o, g⟩ := R.alloc _ m; rw [hL] at g; cases g
  have nL : L ∉ C.priv ∧ L ∉ its := by rw [mem_X] at nLX; simp only [not_or] at nLX; exact ⟨nLX.2.1, nLX.2.2.1⟩
  have nLo : L ∉ own.map (·.2) := by rw [mem_X] at nLX; simp only [not_or] at nLX; exact nLX.2.2.2
  have RL : Rel C (L :: its) own σ s' := R.addIt ok e hL gL
  have XL : ∀ b, b ∈ C.X (L :: its) own → b ∈ L :: C.X its own := fun b hb => by
    rw [mem_X] at hb
    rcases hb with m | m | m | m
    · exact .tail _ (mem_X.mpr (.inl m))
    · exact .tail _ (mem_X.mpr (.inr (.inl m)))
    · rcases List.mem_cons.mp m with z | z
      · exact z ▸ .head _
      · exact .tail _ (mem_X.mpr (.inr (.inr (.inl z))))
    · exact .tail _ (mem_X.mpr (.inr (.inr (.inr m))))
  cases own? with
  | false =>
    refine wpAny_assign_Name (store_rel (sl := .val (.list res)) ok RL hx hs ⟨_, rfl, Rd.list (fun m => ?_) g rfl rfl (q.less fun b hb => ?_)⟩ fun s'' R'' hc'' => ?_)
    · rcases List.mem_cons.mp (XL _ m) with z | z
      · exact ne z
      · obtain ⟨o, g⟩ := R.alloc _ z; rw [ha] at g; cases g
    · rcases List.mem_cons.mp (XL _ hb) with z | z
      · exact z ▸ List.mem_cons_self
      · exact List.mem_cons_of_mem _ (List.mem_cons_of_mem _ z)
    · refine ⟨mL, ⟨oL, es, ep, hc''.pres _ _ gL nL.1 nLo, by assumption⟩, fun h' hsb => wpAny_pure (wpAny_pure (h .next _ own (Rel.letGo ok R hL R'' hsb nL) ?_))⟩
      have hch := (Chg.ext (C := C) (own := own) e).trans hc''
      refine ⟨?_, fun b o gb h1 h2 => (hsb.2 b fun z => ?_).trans (hch.pres b o gb h1 h2), fun b o gb => ?_, hch.news⟩
      · obtain ⟨h1, t1, rfl⟩ := hch.same; exact ⟨_, _, rfl⟩
      · rw [z, hL] at gb; cases gb
      · obtain ⟨o', g'⟩ := hch.alive b o gb
        exact ⟨o', (hsb.2 b fun z => by rw [z, hL] at gb; cases gb).trans g'⟩
  | true =>
    have RB : Rel C (L :: its) ((i, acc) :: own) σ s' := R.addBoth ok e ha hL ne g gL
    have nLo' : L ∉ ((i, acc) :: own).map (·.2) := fun m => by
      rcases List.mem_cons.mp m with z | z
      · exact ne z.symm
      · exact nLo z
    refine wpAny_assign_Name (store_rel (sl := .own res) ok RB hx hs ⟨acc, ws, m, rfl, .head _, g, q.less fun b hb => ?_⟩ fun s'' R'' hc'' => ?_)
    · rw [mem_X] at hb
      rcases hb with m | m | m | m
      · exact .tail _ (.tail _ (mem_X.mpr (.inl m)))
      · exact .tail _ (.tail _ (mem_X.mpr (.inr (.inl m))))
      · rcases List.mem_cons.mp m with z | z
        · exact z ▸ .head _
        · exact .tail _ (.tail _ (mem_X.mpr (.inr (.inr (.inl z)))))
      · rcases List.mem_cons.mp m with z | z
        · have z' : b = acc := z
          exact z' ▸ .tail _ (.head _)
        · exact .tail _ (.tail _ (mem_X.mpr (.inr (.inr (.inr z)))))
    · refine ⟨mL, ⟨oL, es, ep, hc''.pres _ _ gL nL.1 nLo', by assumption⟩, fun h' hsb => wpAny_pure (wpAny_pure (h .next _ _ (Rel.letGo ok R hL R'' hsb nL) ?_))⟩
      have hch := (chg_own (C := C) (own := own) (i := i) e ha).trans hc''
      refine ⟨?_, fun b o gb h1 h2 => (hsb.2 b fun z => ?_).trans (hch.pres b o gb h1 h2), fun b o gb => ?_, hch.news⟩
      · obtain ⟨h1, t1, rfl⟩ := hch.same; exact ⟨_, _, rfl⟩
      · rw [z, hL] at gb; cases gb
      · obtain ⟨o', g'⟩ := hch.alive b o gb
        exact ⟨o', (hsb.2 b fun z => by rw [z, hL] at gb; cases gb).trans g'⟩
theorem ss_compLet (tp : TopP top) (ok : C.Ok n top) {i : Nat} {x : Str} {elt tgt iter : Expr} {ifs : List Expr} {scope : Scope} {k : Nat} {see : List Nat} {p pos cpos : Pos} {T : PyData → St → Option St} {src : DL} {test : DB} {de : DE}
    (hx : C.names[i]? = some x) (hs : storeOk C x = true) (c : CompD prog w C n top elt tgt iter ifs scope k see T src test de)
    (hsw : swapsWith (.ListComp elt [⟨tgt, iter, ifs, 0⟩] scope cpos) (some (.Name x p)) pos.line C.env = pure true := by rfl) :
    SS prog w C (.Assign [.Name x p] (.ListComp elt [⟨tgt, iter, ifs, 0⟩] scope cpos) pos) (sLet i (dComp (lComp k see T src test de))) := by
  intro its own σ s o Q E R hd h
  unfold sLet dComp at hd
  split at hd
  · rename_i d hdd
    cases hd
    obtain ⟨res, hr, rfl⟩ := Option.map_eq_some_iff.mp hdd
    exact comp_store tp ok hx hs c hsw R hr false h
  · cases hd
theorem ss_compOwn (tp : TopP top) (ok : C.Ok n top) {i : Nat} {x : Str} {elt tgt iter : Expr} {ifs : List Expr} {scope : Scope} {k : Nat} {see : List Nat} {p pos cpos : Pos} {T : PyData → St → Option St} {src : DL} {test : DB} {de : DE}
    (hx : C.names[i]? = some x) (hs : storeOk C x = true) (c : CompD prog w C n top elt tgt iter ifs scope k see T src test de)
    (hsw : swapsWith (.ListComp elt [⟨tgt, iter, ifs, 0⟩] scope cpos) (some (.Name x p)) pos.line C.env = pure true := by rfl) :
    SS prog w C (.Assign [.Name x p] (.ListComp elt [⟨tgt, iter, ifs, 0⟩] scope cpos) pos) (sOwn i (lComp k see T src test de)) := by
  intro its own σ s o Q E R hd h
  unfold sOwn at hd
  split at hd
  · rename_i res hr
    cases hd
    exact comp_store tp ok hx hs c hsw R hr true h
  · cases hd
end
end Mine
end
section
namespace Mine
open PySem PySem.W PySem.Calls PyProof.Rows
open PySem.SeqAt (shaped)

noncomputable def ArgIs (X : List Addr) (h : Heap) (v : Value) : Slot → Prop
  | .no => True
  | .val d => Rd X h v d
  | .own _ => False
  | .bag l => Bag X h v l
noncomputable def ArgsAre (X : List Addr) (h : Heap) : List Value → List Slot → Prop
  | [], [] => True
  | v :: vs, sl :: r => ArgIs X h v sl ∧ ArgsAre X h vs r
  | _, _ => False
theorem ArgIs.grow {X : List Addr} {h h' : Heap} {v : Value} {sl : Slot} (x : ArgIs X h v sl) (k : Sub h h') : ArgIs X h' v sl := by
  cases sl with
  | no => trivial
  | val d => exact Rd.grow x k
  | own xs => exact x
  | bag l => exact Bag.grow x k
theorem ArgsAre.grow {X : List Addr} {h h' : Heap} : ∀ {vs : List Value} {r : List Slot}, ArgsAre X h vs r → Sub h h' → ArgsAre X h' vs r
  | [], [], _, _ => trivial
  | _ :: _, _ :: _, x, k => ⟨x.1.grow k, ArgsAre.grow x.2 k⟩
  | [], _ :: _, x, _ => x.elim
  | _ :: _, [], x, _ => x.elim
theorem ArgsAre.len {X : List Addr} {h : Heap} : ∀ {vs : List Value} {r : List Slot}, ArgsAre X h vs r → vs.length = r.length
  | [], [], _ => rfl
  | _ :: _, _ :: _, x => by simp [ArgsAre.len x.2]
  | [], _ :: _, x => x.elim
  | _ :: _, [], x => x.elim
theorem ArgsAre.at {X : List Addr} {h : Heap} : ∀ {vs : List Value} {r : List Slot} {i : Nat} {sl : Slot}, ArgsAre X h vs r → r[i]? = some sl → ∃ v, vs[i]? = some v ∧ ArgIs X h v sl
  | [], [], _, _, _, e => by simp at e
  | v :: _, _ :: _, 0, _, x, e => by simp at e; subst e; exact ⟨v, by simp, x.1⟩
  | _ :: _, _ :: _, i + 1, _, x, e => by
    obtain ⟨v, hv, q⟩ := ArgsAre.at x.2 (i := i) (by simpa using e)
    exact ⟨v, by simpa using hv, q⟩
  | [], _ :: _, _, _, x, _ => x.elim
  | _ :: _, [], _, _, x, _ => x.elim

/-- a function of the text: for all arguments that are as told it ends and gives what D says -/
noncomputable def FnOk (prog : Program) (w : World) (top : Heap → Prop) (base : Heap) (f : Addr) (k : Nat) (D : List Slot → Option PyData) : Prop :=
  ∀ (A : Around) (X : List Addr) (s : Shared) (frs : List Env) (args : List Value) (ds : List Slot) (r : PyData) (Q : Value → Shared → Prop) (E : Value → Shared → Prop), Room A k → A.frames = some frs → s.heap.FunFrames base frs → Sub base s.heap →
    (∀ p ∈ X, ∃ o, s.heap.get? p = some o) → top (hideAll s.heap X) → ArgsAre X s.heap args ds → D ds = some r → (∀ v s', Ext s s' → Rd X s'.heap v r → Q v s') → wpAny (model prog w) A (call (.ref f) args) Q E s

section
variable {prog : Program} {w : World} {C : Cx} {n : Nat} {top : Heap → Prop}
noncomputable def SAs (prog : Program) (w : World) (C : Cx) (es : List Expr) (d : St → Option (List Slot)) : Prop :=
  ∀ pos its own σ s r (Q : List Value → Shared → Prop) (E : Value → Shared → Prop), Rel C its own σ s → d σ = some r →
    (∀ vs s', Ext s s' → ArgsAre (C.X its own) s'.heap vs r → Q vs s') → wpAny (model prog w) C.A (spliced (backTo pos (starEach es C.env))) Q E s
noncomputable def SA (prog : Program) (w : World) (C : Cx) (e : Expr) (d : DA) : Prop :=
  ∀ its own σ s r (Q : Value → Shared → Prop) (E : Value → Shared → Prop), Rel C its own σ s → d σ = some r →
    (∀ v s', Ext s s' → ArgIs (C.X its own) s'.heap v r → Q v s') → wpAny (model prog w) C.A (eval e C.env) Q E s
theorem sa_val {e : Expr} {d : DE} (he : SE prog w C e d) : SA prog w C e (aVal d) := by
  intro its own σ s r Q E R hd h
  unfold aVal at hd
  obtain ⟨x, hx, rfl⟩ := Option.map_eq_some_iff.mp hd
  exact he _ _ _ _ _ _ _ R hx fun v s' e' q => h v s' e' q
theorem sa_slot (ok : C.Ok n top) {i : Nat} {x : Str} {pos : Pos} (hx : C.names[i]? = some x) (hk : kindOk C.env x = true) : SA prog w C (.Name x pos) (aSlot i) := by
  intro its own σ s r Q E R hd h
  unfold aSlot at hd
  split at hd
  · rename_i l hl
    cases hd
    obtain ⟨μ, f, v⟩ := R.vars
    obtain ⟨u, e, q⟩ := v i x _ hx hl
    refine wpAny_Name (f.load ok.kind hk e (h u s Ext.rf q)) ?_
    unfold kindOk at hk
    rw [Bool.and_eq_true] at hk
    simpa using hk.2
  · cases hd
theorem sas_nil : SAs prog w C [] (aAll []) := by
  intro pos its own σ s r Q E R hd h
  cases hd
  exact args_nil (h [] s Ext.rf trivial)
theorem sas_cons {e : Expr} {es : List Expr} {d : DA} {ds : List DA} (he : SA prog w C e d) (hs : SAs prog w C es (aAll ds))
    (hx : starEach (e :: es) C.env = (false, eval e C.env) :: starEach es C.env := by rfl) : SAs prog w C (e :: es) (aAll (d :: ds)) := by
  intro pos its own σ s r Q E R hd h
  rw [aAll] at hd
  split at hd
  · rename_i x ex
    split at hd
    · rename_i xs exs
      cases hd
      refine args_cons (he _ _ _ _ _ _ _ R ex fun v s₁ e₁ ra => hs _ _ _ _ _ _ _ _ (R.grow e₁) exs fun vs s₂ e₂ rs => ?_) hx
      exact h _ _ (e₁.trans e₂) ⟨ra.grow e₂.keep, rs⟩
    · cases hd
  · cases hd
theorem dCall_some {f : List Slot → Option PyData} {as : List DA} {σ : St} {r : PyData} (h : dCall f as σ = some r) : ∃ ds, aAll as σ = some ds ∧ f ds = some r := by
  unfold dCall at h
  split at h
  · exact ⟨_, by assumption, h⟩
  · cases h
/-- the function's object stands in the base -/
noncomputable def FnObj (top : Heap → Prop) (f : Addr) : Prop := ∀ g, top g → ∃ o fd, g.get? f = some o ∧ o.data = .func fd
theorem se_call (tp : TopP top) (ok : C.Ok n top) {x : Str} {e : Expr} {es : List Expr} {p pos : Pos} {das : List DA} {f : Addr} {D : List Slot → Option PyData} {k : Nat} (g : Glb top x (.ref f)) (fo : FnObj top f) (F : FnOk prog w top C.base f k D) (hkn : k ≤ n)
    (ha : SAs prog w C (e :: es) (aAll das)) (hk : C.env.kindOf x = some .globalImplicit) (hd : (x == ("__debug__" : Str)) = false := by decide)
    (hx : starEach (e :: es) C.env = (false, eval e C.env) :: starEach es C.env := by rfl) : SE prog w C (.Call (.Name x p) (e :: es) [] pos) (dCall D das) := by
  intro its own σ s r Q E R hr h
  obtain ⟨ds, hds, hD⟩ := dCall_some hr
  obtain ⟨o, fd, go, hdat⟩ := fo _ ok.top
  refine wpAny_Call_NameR (name_glob ok R hk (g _ ok.top) ?_ hd)
  refine callWith_def (o := o) (fd := fd) hdat (ha _ _ _ _ _ _ _ _ R hds fun vs s₁ e₁ q => ?_) hx
  have R₁ := R.grow e₁
  refine ⟨R₁.seen' _ _ go, ?_⟩
  refine F C.A (C.X its own) s₁ C.frs vs ds r _ _ ⟨ok.room.handled, by have := ok.room.depth; omega, by have := ok.room.units; omega⟩ ok.frames R₁.frames (fun b o e => R₁.ext.keep _ _ (ok.bs b o e)) R₁.alloc (tp.mono _ _ R₁.seen ok.top) q hD fun v s' e' q' => h v s' (e₁.trans e') q'
theorem se_call0 (tp : TopP top) (ok : C.Ok n top) {x : Str} {p pos : Pos} {f : Addr} {D : List Slot → Option PyData} {k : Nat} (g : Glb top x (.ref f)) (fo : FnObj top f) (F : FnOk prog w top C.base f k D) (hkn : k ≤ n)
    (hk : C.env.kindOf x = some .globalImplicit) (hd : (x == ("__debug__" : Str)) = false := by decide) : SE prog w C (.Call (.Name x p) [] [] pos) (dCall D []) := by
  intro its own σ s r Q E R hr h
  obtain ⟨ds, hds, hD⟩ := dCall_some hr
  cases hds
  obtain ⟨o, fd, go, hdat⟩ := fo _ ok.top
  refine wpAny_Call_NameR (name_glob ok R hk (g _ ok.top) ?_ hd)
  refine callWith_function (o := o) (fd := fd) (PySem.evalArgs_none ⟨⟨R.seen' _ _ go, hdat⟩, ?_⟩)
  exact F C.A (C.X its own) s C.frs [] [] r _ _ ⟨ok.room.handled, by have := ok.room.depth; omega, by have := ok.room.units; omega⟩ ok.frames R.frames (fun b o e => R.ext.keep _ _ (ok.bs b o e)) R.alloc (tp.mono _ _ R.seen ok.top) trivial hD fun v s' e' q' => h v s' e' q'

/-! ### a function's contract out of its body's -/
theorem bindL_other {kindOf : Str → Option NameKind} {x : Str} : ∀ {l : List (Str × Value)} {m : Str → Option Value}, (∀ p ∈ l, p.1 ≠ x) → bindL kindOf l m x = m x
  | [], _, _ => rfl
  | (k, v) :: r, m, h => by
    rw [bindL, bindL_other (l := r) fun p hp => h p (.tail _ hp)]
    split
    · show (if x = k then some v else m x) = m x
      rw [if_neg fun e => h (k, v) (.head _) e.symm]
    · rfl
theorem bindL_at {kindOf : Str → Option NameKind} : ∀ {ns : List Str} {vs : List Value} {m : Str → Option Value} {i : Nat} {x : Str} {v : Value}, ns.Nodup → (∀ y ∈ ns, kindOf y = some .local) → ns[i]? = some x → vs[i]? = some v → bindL kindOf (ns.zip vs) m x = some v
  | [], _, _, _, _, _, _, _, h, _ => by simp at h
  | _ :: _, [], _, _, _, _, _, _, _, h => by simp at h
  | n :: ns, u :: vs, m, 0, x, v, nd, hk, h1, h2 => by
    simp at h1 h2
    subst h1 h2
    rw [List.zip_cons_cons, bindL, if_pos (hk _ (.head _)), bindL_other, if_pos rfl]
    intro p hp
    have := (List.of_mem_zip (a := p.1) (b := p.2) hp).1
    exact fun e => (List.nodup_cons.mp nd).1 (e ▸ this)
  | n :: ns, u :: vs, m, i + 1, x, v, nd, hk, h1, h2 => by
    rw [List.zip_cons_cons, bindL]
    exact bindL_at (List.nodup_cons.mp nd).2 (fun y hy => hk y (.tail _ hy)) (by simpa using h1) (by simpa using h2)
structure FnD (fd : FuncData) (body : List Stmt) (ps rest : List Str) : Prop where
  body : fd.body = .stmts body
  clos : fd.closure = []
  glob : fd.globals = mainGlobals
  bi : fd.builtins = builtinsNs
  kind : fd.scope.kind = .function
  gen : fd.scope.isGenerator = false
  co : fd.scope.isCoroutine = false
  bind : ∀ vals, vals.length = ps.length → bindArgs fd ⟨vals, []⟩ = pure (ps.zip vals)
  nd : (ps ++ rest).Nodup
  loc : ∀ x ∈ ps, fd.scope.names.lookup x = some .local
  cells : ∀ L p, p ∈ cellsFrom (L + 1) fd.scope.names [] → (cellsFrom (L + 1) fd.scope.names []).lookup p.1 = some p.2
theorem runFn_some {np k : Nat} {D : DS} {args : List Slot} {r : PyData} (h : runFn np k D args = some r) : args.length = np ∧ D (args ++ List.replicate k .no) = some (.ret r) := by
  unfold runFn at h
  split at h
  · split at h
    · cases h; exact ⟨by assumption, by assumption⟩
    · cases h
  · cases h
theorem room_deeper {A : Around} {k : Nat} {env : Env} (r : Room A (k + 1)) : Room (A.deeper env) k :=
  ⟨r.handled, by have := r.depth; show A.depth + 1 + k + 150 < _; omega, by have := r.units; show A.units + 3 + 4 * k + 200 < _; omega⟩
/-- the frame that a call of the function makes -/
structure Called (C : Cx) (fd : FuncData) (f : Addr) (names : List Str) (base : Heap) (X : List Addr) (s : Shared) (A : Around) (frs : List Env) : Prop where
  names : C.names = names
  scope : C.env.scope = fd.scope
  loc : ∃ L, C.env = callEnvC fd L f ∧ C.priv = L :: C.env.cells.map (·.2) ∧ s.heap.get? L = none
  base : C.base = base
  x0 : C.X0 = X
  s0 : C.s0 = s
  A : C.A = A.deeper C.env
  frs : C.frs = C.env :: frs
theorem fn_core (tp : TopP top) {base : Heap} {f : Addr} {fd : FuncData} {body : List Stmt} {ps rest : List Str} {k : Nat} (hf : ∀ g, top g → ∃ o, g.get? f = some o ∧ o.data = .func fd ∧ g.CodeRec fd.code fd.qualname) (d : FnD fd body ps rest)
    {A : Around} {X : List Addr} {s : Shared} {frs : List Env} {args : List Value} {ds : List Slot} {Q : Value → Shared → Prop} {E : Value → Shared → Prop} (rm : Room A (k + 1)) (hfr : A.frames = some frs) (hff : s.heap.FunFrames base frs) (hbs : Sub base s.heap)
    (al : ∀ p ∈ X, ∃ o, s.heap.get? p = some o) (ht : top (hideAll s.heap X)) (hargs : ArgsAre X s.heap args ds) (hln : ds.length = ps.length)
    (hB : ∀ C : Cx, C.Ok k top → Called C fd f (ps ++ rest) base X s A frs → ∀ s₁, Rel C [] [] (ds ++ List.replicate rest.length .no) s₁ →
      wpAny (model prog w) C.A (execs body C.env) (fun fl s' => ∃ v, fl = .ret v ∧ Q v s') (fun e s' => wpAny (model prog w) C.A (leaving C.env e) (fun _ s'' => E e s'') (fun e' s'' => E e' s'') s') s₁) :
    wpAny (model prog w) A (call (.ref f) args) Q E s := by
  obtain ⟨o, go, hdat, hcr⟩ := hf _ ht
  have hsub : Sub (hideAll s.heap X) s.heap := fun b o e => of_hideAll X e
  have hlen : args.length = ps.length := hargs.len.trans hln
  · refine wpAny_call (codeAny_call_cells (binds := ps.zip args) (body := body) (by have := rm.depth; omega) (hsub _ _ go) hdat ((tp.lim _ ht).keeps hsub) (hcr.keeps hsub) d.body (d.bind _ hlen) d.clos
      (fun x hx => .inl (d.loc _ (List.of_mem_zip (a := x.1) (b := x.2) hx).1)) (fun s₁ ic => ?_) d.co d.gen d.kind)
    generalize hL : s.heap.objs.size = L at ic ⊢
    have hLn : s.heap.get? L = none := by rw [← hL]; exact new_none
    let env := callEnvC fd L f
    have hcs : env.cells = cellsFrom (L + 1) fd.scope.names [] := rfl
    let C : Cx := { A := A.deeper env, env := env, names := ps ++ rest, priv := L :: env.cells.map (·.2), X0 := X, s0 := s, base := base, frs := env :: frs }
    have above : ∀ p ∈ env.cells, L < p.2 := fun p hp => ic.above p.1 p.2 hp
    have cnone : ∀ p ∈ env.cells, s.heap.get? p.2 = none := fun p hp => by
      cases e : s.heap.get? p.2 with
      | none => rfl
      | some o =>
        have h1 : @LT.lt Nat _ p.2 s.heap.objs.size := lt_sz e
        have h2 : @LT.lt Nat _ L p.2 := above p hp
        rw [hL] at h1; omega
    have ok : C.Ok k top := {
      room := room_deeper rm, kind := d.kind, glob := d.glob, bi := d.bi, loc := .head _, x0 := al, bs := hbs, nd := d.nd,
      cin := fun q hq => .inl (.tail _ (List.mem_map.mpr ⟨q, hq, rfl⟩)), apart := ic.apart, off := fun p hp e => Nat.lt_irrefl L (by have e' : p.2 = L := e; have h1 := above p hp; rw [e'] at h1; exact h1),
      top := ht, lim := tp.lim _ ht, seer := tp.seer _ ht, frames := by show A.frames.map _ = _; rw [hfr]; rfl,
      hd := ⟨env, frs, rfl, d.gen, d.co, d.bi, d.glob⟩ }
    have hal := hargs.len
    have ext : Ext s s₁ := ⟨ic.toInCall.same, ic.toInCall.keep⟩
    have sub1 : Sub (hideAll s.heap X) (hideAll s₁.heap (C.X [] [])) := hid_sub fun b o nb e => ⟨ext.keep b o e, fun m => by
      rw [mem_X] at m
      rcases m with m | m | m | m
      · exact nb m
      · rcases List.mem_cons.mp m with z | z
        · rw [z, hLn] at e; cases e
        · obtain ⟨p, hp, q⟩ := List.mem_map.mp z
          have q' : p.2 = b := q
          rw [← q', cnone p hp] at e; cases e
      · cases m
      · cases m⟩
    have R : Rel C [] [] (ds ++ List.replicate rest.length .no) s₁ := by
      obtain ⟨oL, es, ep, gL, dL, kL, fL⟩ := id ic.toInCall.ns
      refine ⟨ext, fun x hx => ?_, fun x hx => ?_, List.Pairwise.nil, (fun p hp => nomatch hp), ?_, fun y => if env.kindOf y = some .local then bindL env.kindOf (ps.zip args) (fun _ => none) y else bindC env.kindOf (ps.zip args) (fun _ => none) y, ⟨⟨_, ic.toInCall.ns, fun y hy => ?_⟩, fun y c hy hc => ?_⟩, fun i y sl hi hsl => ?_⟩
      · simp only [List.map_nil, List.append_nil] at hx
        rcases List.mem_cons.mp hx with z | z
        · rw [z]; exact hLn
        · obtain ⟨p, hp, q⟩ := List.mem_map.mp z
          have q' : p.2 = x := q
          rw [← q']; exact cnone p hp
      · rw [mem_X] at hx
        rcases hx with m | m | m | m
        · obtain ⟨o, e⟩ := al x m; exact ⟨o, ext.keep _ _ e⟩
        · rcases List.mem_cons.mp m with z | z
          · exact ⟨oL, z ▸ gL⟩
          · obtain ⟨p, hp, q⟩ := List.mem_map.mp z
            obtain ⟨oc, gc, _⟩ := ic.cell p.1 p.2 (d.cells L p hp)
            have q' : p.2 = x := q
            exact ⟨oc, q' ▸ gc⟩
        · cases m
        · cases m
      · refine ⟨?_, ⟨L, oL, rfl, ?_, gL, ?_⟩, FunFrames_keeps hff ext.keep⟩
        · show fd.scope.kind ≠ .module
          rw [d.kind]; decide
        · cases e : base.get? L with
          | none => rfl
          | some o => have := hbs _ _ e; rw [hLn] at this; cases this
        · intro vs z; rw [dL] at z; cases z
      · rw [if_pos hy]
      · rw [if_neg hy]; exact ic.cell y c hc
      · by_cases hi' : i < ds.length
        · rw [List.getElem?_append_left hi'] at hsl
          obtain ⟨v, hv, q⟩ := hargs.at hsl
          have hps : ps[i]? = some y := by
            have : (ps ++ rest)[i]? = some y := hi
            rwa [List.getElem?_append_left (by omega)] at this
          have hloc : env.kindOf y = some .local := d.loc y (List.mem_of_getElem? hps)
          show SlotIs _ _ _ _ (if env.kindOf y = some .local then _ else _) _
          rw [if_pos hloc, bindL_at (kindOf := env.kindOf) (List.nodup_append.mp d.nd).1 (fun z hz => d.loc z hz) hps hv]
          cases sl with
          | no => trivial
          | val dd => exact ⟨v, rfl, Rd.keeps q sub1⟩
          | own xs => exact (q : False).elim
          | bag l => exact ⟨v, rfl, Bag.keeps q sub1⟩
        · rw [List.getElem?_append_right (by omega)] at hsl
          have := List.mem_of_getElem? hsl
          rw [List.eq_of_mem_replicate this]
          trivial
    refine wpAny_mono (hB C ok ⟨rfl, rfl, ⟨L, rfl, rfl, hLn⟩, rfl, rfl, rfl, rfl, rfl⟩ s₁ R) (fun fl s' ho => ?_) fun _ _ x => x
    obtain ⟨v, rfl, hv⟩ := ho
    exact hv
theorem fn_ok (tp : TopP top) {base : Heap} {f : Addr} {fd : FuncData} {body : List Stmt} {ps rest : List Str} {k : Nat} {D : DS} (hf : ∀ g, top g → ∃ o, g.get? f = some o ∧ o.data = .func fd ∧ g.CodeRec fd.code fd.qualname) (d : FnD fd body ps rest)
    (hS : ∀ C : Cx, C.Ok k top → C.names = ps ++ rest → C.env.scope = fd.scope → (∃ L, C.env.locals = L ∧ C.env.cells = cellsFrom (L + 1) fd.scope.names [] ∧ C.priv = L :: C.env.cells.map (·.2)) → C.base = base → SSs prog w C body D) :
    FnOk prog w top base f (k + 1) (runFn ps.length rest.length D) := by
  intro A X s frs args ds r Q E rm hfr hff hbs al ht hargs hD h
  obtain ⟨hln, hD'⟩ := runFn_some hD
  refine fn_core tp hf d rm hfr hff hbs al ht hargs hln fun C ok cd s₁ R => ?_
  obtain ⟨L, h1, h2, _⟩ := cd.loc
  refine hS C ok cd.names cd.scope ⟨L, by rw [h1]; rfl, by rw [h1]; rfl, h2⟩ cd.base _ _ _ _ _ _ _ R hD' fun fl s' own' ho hc => ?_
  cases fl <;> first | exact ho.elim | skip
  have ho' : Rd C.X0 s'.heap _ r ∧ Ext C.s0 s' := ho
  rw [cd.x0, cd.s0] at ho'
  exact ⟨_, rfl, h _ _ ho'.2 ho'.1⟩
end
end Mine
end
section
namespace Mine
open PySem PySem.W PySem.Calls PyProof.Rows
open PySem.SeqAt (shaped)
section
variable {prog : Program} {w : World} {C : Cx} {n : Nat} {top : Heap → Prop}
theorem ss_no {st : Stmt} : SS prog w C st sNo := by
  intro its own σ s o Q E R hd h
  cases hd

/-! ### dicts keyed by texts -/
noncomputable def DictIs (prog : Program) (w : World) (X : List Addr) (h : Heap) (v : Value) (kvs : List (Str × PyData)) : Prop :=
  ∃ a vs, v = .ref a ∧ (a == sysModules) = false ∧ h.DictOf (PySem.strKind prog w) a ((kvs.map (·.1)).zip vs) ∧ RdAll X h vs (kvs.map (·.2))
theorem dictOf_keep {h h' : Heap} {a : Addr} {kvs : List (Str × Value)} (d : h.DictOf (PySem.strKind prog w) a kvs) (k : Sub h h') : h'.DictOf (PySem.strKind prog w) a kvs :=
  let ⟨o, es, ep, g, r⟩ := d; ⟨o, es, ep, k _ _ g, r⟩
theorem DictIs.grow {X : List Addr} {h h' : Heap} {v : Value} {kvs : List (Str × PyData)} (x : DictIs prog w X h v kvs) (k : Sub h h') : DictIs prog w X h' v kvs := by
  obtain ⟨a, vs, e, l, d, q⟩ := x
  exact ⟨a, vs, e, l, dictOf_keep d k, q.grow k⟩
noncomputable def SD (prog : Program) (w : World) (C : Cx) (e : Expr) (d : DD) : Prop :=
  ∀ its own σ s kvs (Q : Value → Shared → Prop) (E : Value → Shared → Prop), Rel C its own σ s → d σ = some kvs →
    (∀ v s', Ext s s' → DictIs prog w (C.X its own) s'.heap v kvs → Q v s') → wpAny (model prog w) C.A (eval e C.env) Q E s
theorem lookup_at {X : List Addr} {h : Heap} {x : Str} : ∀ {ks : List Str} {vs : List Value} {ds : List PyData}, RdAll X h vs ds →
    (∀ d, (ks.zip ds).lookup x = some d → ∃ v, valueAt (ks.zip vs) x = some v ∧ Rd X h v d) ∧ (((ks.zip ds).lookup x).isSome = (valueAt (ks.zip vs) x).isSome)
  | [], vs, ds, q => ⟨fun d e => by simp at e, by simp [valueAt]⟩
  | k :: ks, vs, ds, q => by
    cases vs with
    | nil =>
      have := q.length
      cases ds with
      | nil => exact ⟨fun d e => by simp at e, by simp [valueAt]⟩
      | cons => simp at this
    | cons v vs =>
      cases ds with
      | nil => have := q.length; simp at this
      | cons dd ds =>
        have ih := lookup_at (x := x) (ks := ks) q.inv.2
        simp only [List.zip_cons_cons, List.lookup_cons, valueAt, List.find?_cons]
        by_cases e : k = x
        · subst e
          simp only [beq_self_eq_true, decide_true]
          exact ⟨fun d ed => ⟨v, rfl, by cases ed; exact q.inv.1⟩, rfl⟩
        · have h1 : (x == k) = false := by simpa using fun z => e z.symm
          simp only [h1, e, decide_false]
          exact ih
theorem zip_fst_snd : ∀ (kvs : List (Str × PyData)), (kvs.map (·.1)).zip (kvs.map (·.2)) = kvs
  | [] => rfl
  | (a, b) :: r => by simp [zip_fst_snd r]
theorem se_tab {e i : Expr} {pos : Pos} {kd : DD} {di : DE} (he : SD prog w C e kd) (hi : SE prog w C i di) (hs : ∀ o k, subscripted i false o k = operate [o, k] (getItem o k) := by intro _ _; rfl) : SE prog w C (.Subscript e i pos) (dTab kd di) := by
  intro its own σ s r Q E R hd h
  unfold dTab at hd
  split at hd
  · rename_i kvs x ek ex
    refine Subscript_ (he _ _ _ _ _ _ _ R ek fun a s₁ e₁ da => hi _ _ _ _ _ _ _ (R.grow e₁) ex fun b s₂ e₂ rb => ?_)
    obtain ⟨t, rfl⟩ := rb.ofStr
    obtain ⟨ad, vs, rfl, hl, d, q⟩ := da.grow e₂.keep
    have lk := lookup_at (x := x) (ks := kvs.map (·.1)) q
    rw [zip_fst_snd] at lk
    obtain ⟨v, hv, rv⟩ := lk.1 _ hd
    refine tail_any (T := "dict") d.mapOf.typeIs slot_dict_getitem.lookup (wpAny_getItem_of (knd := PySem.strKind prog w) (k := x) (by simp [PySem.strKind, Value.isStrOf]) d.mapOf hv ?_) (hs _ _)
    exact h v _ ((e₁.trans e₂).trans (Ext.tok _)) rv
  · cases hd
theorem sb_has {l e : Expr} {pos : Pos} {dl : DE} {kd : DD} (hl : SE prog w C l dl) (he : SD prog w C e kd) (hm : behindInMarks .In e = false := by rfl) : SB prog w C (.Compare l [.In] [e] pos) (bHas dl kd) := by
  intro its own σ s r Q E R hd h
  unfold bHas at hd
  split at hd
  · rename_i x kvs ex ek
    cases hd
    refine wpAny_isTrue_Compare1 (hl _ _ _ _ _ _ _ R ex fun a s₁ e₁ ra => he _ _ _ _ _ _ _ (R.grow e₁) ek fun b s₂ e₂ db => ?_) hm
    obtain ⟨t, rfl⟩ := ra.ofStr
    obtain ⟨ad, vs, rfl, hlo, d, q⟩ := db
    have lk := lookup_at (x := x) (ks := kvs.map (·.1)) q
    rw [zip_fst_snd] at lk
    refine wpAny_in_of (knd := PySem.strKind prog w) (k := x) (by simp [PySem.strKind, Value.isStrOf]) hlo d.mapOf (wpAny_truthy_bool ?_)
    rw [← lk.2]
    exact h _ ((e₁.trans e₂).trans (Ext.tok _))
  · cases hd
/-- a dict of the module -/
noncomputable def DConst (prog : Program) (w : World) (top : Heap → Prop) (x : Str) (kvs : List (Str × PyData)) : Prop := ∀ g, top g → ∃ a vs as, GV x (.ref a) g ∧ (a == sysModules) = false ∧ g.DictOf (PySem.strKind prog w) a ((kvs.map (·.1)).zip vs) ∧ ReadsAll g vs (kvs.map (·.2)) as
theorem sd_glob (ok : C.Ok n top) {x : Str} {pos : Pos} {kvs : List (Str × PyData)} (c : DConst prog w top x kvs) (hx : C.env.kindOf x = some .globalImplicit) (hd : (x == ("__debug__" : Str)) = false := by decide) : SD prog w C (.Name x pos) (dKvs kvs) := by
  intro its own σ s r Q E R hr h
  cases hr
  obtain ⟨a, vs, as, g, lo, d, q⟩ := c _ ok.top
  exact name_glob ok R hx g (h _ s Ext.rf ⟨a, vs, rfl, lo, dictOf_keep d R.seen', ⟨as, PyProof.Rows.ReadsAll.keeps R.seen q⟩⟩) hd
/-! display -/
theorem merged_app : ∀ (kvs acc : List (Str × Value)), ((acc ++ kvs).map (·.1)).Nodup → merged acc kvs = acc ++ kvs
  | [], acc, _ => by simp [merged]
  | (k, v) :: r, acc, h => by
    have hs : stored acc k v = acc ++ [(k, v)] := by
      unfold stored
      rw [if_neg]
      intro hany
      rw [List.any_eq_true] at hany
      obtain ⟨p, hp, e⟩ := hany
      have e' : p.1 = k := by simpa using e
      rw [List.map_append, List.nodup_append] at h
      exact h.2.2 p.1 (List.mem_map.mpr ⟨p, hp, rfl⟩) k (by simp) e'
    show merged (stored acc k v) r = _
    rw [hs, merged_app r (acc ++ [(k, v)]) (by simpa using h)]
    simp
inductive KeyList : List (Option Expr) → List Str → Prop where
  | nil : KeyList [] []
  | cons {x : Str} {k : Nat} {p : Pos} {es : List (Option Expr)} {ks : List Str} : KeyList es ks → KeyList (some (.Constant (.str x) k p) :: es) (x :: ks)
theorem KeyList.facts {es : List (Option Expr)} {ks : List Str} (h : KeyList es ks) : es.all (·.isSome) = true ∧ es.length = ks.length := by
  induction h with
  | nil => exact ⟨rfl, rfl⟩
  | cons _ ih => exact ⟨by simp [ih.1], by simp [ih.2]⟩
inductive SEl (prog : Program) (w : World) (C : Cx) : List Expr → List DE → Prop where
  | nil : SEl prog w C [] []
  | cons {e : Expr} {d : DE} {es : List Expr} {ds : List DE} : SE prog w C e d → SEl prog w C es ds → SEl prog w C (e :: es) (d :: ds)
theorem SEl.len {es : List Expr} {ds : List DE} (h : SEl prog w C es ds) : es.length = ds.length := by
  induction h with
  | nil => rfl
  | cons _ _ ih => simp [ih]
theorem pairs_walk {pos : Pos} {kes : List (Option Expr)} {ks : List Str} (hk : KeyList kes ks) : ∀ {es : List Expr} {ds : List DE}, SEl prog w C es ds → kes.length = es.length → ∀ its own σ s xs (Q : List (Value × Value) → Shared → Prop) (E : Value → Shared → Prop), Rel C its own σ s → dAll ds σ = some xs →
    (∀ vs ps s', Ext s s' → RdAll (C.X its own) s'.heap vs xs → Carries (PySem.strKind prog w) ps (ks.zip vs) → Q ps s') → wpAny (model prog w) C.A (evalPairs (pairTrees kes es C.env pos)) Q E s := by
  induction hk with
  | nil =>
    intro es ds hs hl its own σ s xs Q E R hd h
    cases hs with
    | nil =>
      cases hd
      exact evalPairs_nil (h [] [] s Ext.rf RdAll.nil trivial)
    | cons => simp at hl
  | cons hk ih =>
    intro es ds hs hl its own σ s xs Q E R hd h
    cases hs with
    | nil => simp at hl
    | cons he hs =>
      rw [dAll] at hd
      split at hd
      · rename_i x ex
        split at hd
        · rename_i ys exs
          cases hd
          refine evalPairs_cons (wpAny_Constant_str (wpAny_bind (he _ _ _ _ _ _ _ (R.grow (Ext.tok _)) ex fun v s₂ e₂ rv => wpAny_bind (wpAny_standAt (wpAny_pure ?_)))))
          refine ih hs (by simpa using hl) _ _ _ _ _ _ _ ((R.grow (Ext.tok _)).grow e₂) exs fun vs ps s₃ e₃ q hc => ?_
          refine h (v :: vs) _ s₃ (((Ext.tok _).trans e₂).trans e₃) (RdAll.cons (rv.grow e₃.keep) q) ⟨by simp [PySem.strKind, Value.isStrOf], rfl, hc⟩
        · cases hd
      · cases hd
theorem zip_keys : ∀ {ks : List Str} {xs : List PyData}, ks.length = xs.length → (ks.zip xs).map (·.1) = ks ∧ (ks.zip xs).map (·.2) = xs
  | [], [], _ => ⟨rfl, rfl⟩
  | [], _ :: _, h => by simp at h
  | _ :: _, [], h => by simp at h
  | k :: ks, x :: xs, h => by
    have := zip_keys (ks := ks) (xs := xs) (by simpa using h)
    simp [this.1, this.2]
theorem sd_display (ok : C.Ok n top) (lim : ∀ g, top g → g.NoLimit) {kes : List (Option Expr)} {ks : List Str} {es : List Expr} {ds : List DE} {pos : Pos} (hk : KeyList kes ks) (hs : SEl prog w C es ds) (hl : kes.length = es.length) (h0 : kes ≠ []) (hlen : kes.length ≤ 15) (nd : ks.Nodup) :
    SD prog w C (.Dict kes es pos) (dPairs ks ds) := by
  intro its own σ s kvs Q E R hd h
  unfold dPairs at hd
  obtain ⟨xs, hx, rfl⟩ := Option.map_eq_some_iff.mp hd
  obtain ⟨h1, h2⟩ := hk.facts
  have hxl := dAll_len hx
  have hsl := hs.len
  have zk := zip_keys (ks := ks) (xs := xs) (by omega)
  generalize hd0 : s.heap.objs.size = d
  have hdn : s.heap.get? d = none := by rw [← hd0]; exact new_none
  have hdX : d ∉ C.X its own := by rw [← hd0]; exact R.new
  have ep : Ext s { s with heap := s.heap.push { cls := .type "dict", data := .dict #[] } } := Ext.push _
  -- the new dict is private while it is filled
  have gd : (s.heap.push { cls := .type "dict", data := .dict #[] }).get? d = some { cls := .type "dict", data := .dict #[] } := by rw [← hd0]; exact Heap.get?_push_size _ rfl
  have R1 : Rel C (d :: its) own σ { s with heap := s.heap.push { cls := .type "dict", data := .dict #[] } } := R.addIt ok ep hdn gd
  refine wpAny_Dict_walk (knd := PySem.strKind prog w) h1 hl h0 hlen ?_
  rw [hd0]
  refine pairs_walk hk hs hl _ _ _ _ _ _ _ R1 hx fun vs ps s₂ e₂ q hc => ?_
  refine ⟨ks.zip vs, hc, ?_, fun h' hdict hsb => ?_⟩
  · refine dictOf_keep ?_ e₂.keep
    refine ⟨_, #[], 0, gd, ⟨rfl, rfl, rfl⟩, rfl, ?_, .nil, List.Pairwise.nil⟩
    intro e he
    simp at he
  · have hnil : merged [] (ks.zip vs) = ks.zip vs := by
      have := merged_app (ks.zip vs) [] (by
        rw [List.nil_append]
        have hvl := q.length
        have : (ks.zip vs).map (·.1) = ks := by
          rw [List.map_fst_zip]; omega
        rw [this]; exact nd)
      simpa using this
    rw [hnil] at hdict
    refine h _ _ ⟨?_, fun b o g => (hsb.2 b fun z => ?_).trans (e₂.keep _ _ (ep.keep _ _ g))⟩ ⟨d, vs, rfl, ?_, by rw [zk.1]; exact hdict, by
      rw [zk.2]
      exact q.keeps (hid_sub fun b o nb g => ⟨(hsb.2 b fun z => nb (mem_X.mpr (.inr (.inr (.inl (z ▸ .head _)))))).trans g, fun m => nb (by
        rw [mem_X] at m ⊢
        rcases m with m | m | m | m
        · exact .inl m
        · exact .inr (.inl m)
        · exact .inr (.inr (.inl (.tail _ m)))
        · exact .inr (.inr (.inr m)))⟩)⟩
    · obtain ⟨h2, t2, rfl⟩ := e₂.same; exact ⟨_, _, rfl⟩
    · rw [z, hdn] at g; cases g
    · obtain ⟨mc, hns, _⟩ := R.lim ok
      have h3 : @LT.lt Nat _ cStatics s.heap.objs.size := hns.lt
      rw [hd0] at h3
      have h4 : @LT.lt Nat _ 2 d := h3
      have h6 : (d : Addr) ≠ sysModules := addr_ne (a := d) (b := 1) (.inr (by omega))
      simpa using h6

/-- a function without arguments that gives a dict -/
noncomputable def FnDict (prog : Program) (w : World) (top : Heap → Prop) (base : Heap) (f : Addr) (k : Nat) (kvs : List (Str × PyData)) : Prop :=
  ∀ (A : Around) (X : List Addr) (s : Shared) (frs : List Env) (Q : Value → Shared → Prop) (E : Value → Shared → Prop), Room A k → A.frames = some frs → s.heap.FunFrames base frs → Sub base s.heap →
    (∀ p ∈ X, ∃ o, s.heap.get? p = some o) → top (hideAll s.heap X) → (∀ v s', Ext s s' → DictIs prog w X s'.heap v kvs → Q v s') → wpAny (model prog w) A (call (.ref f) []) Q E s
theorem fn_dict (tp : TopP top) {base : Heap} {f : Addr} {fd : FuncData} {e : Expr} {p : Pos} {k : Nat} {dd : DD} {kvs : List (Str × PyData)} (hf : ∀ g, top g → ∃ o, g.get? f = some o ∧ o.data = .func fd ∧ g.CodeRec fd.code fd.qualname) (d : FnD fd [.Return (some e) p] [] [])
    (hS : ∀ C : Cx, C.Ok k top → C.env.scope = fd.scope → SD prog w C e dd) (hd : dd [] = some kvs) : FnDict prog w top base f (k + 1) kvs := by
  intro A X s frs Q E rm hfr hff hbs al ht h
  refine fn_core (ds := []) tp hf d rm hfr hff hbs al ht trivial rfl fun C ok cd s₁ R => ?_
  refine wpAny_execs_cons (wpAny_Return_some (hS C ok cd.scope _ _ _ _ _ _ _ R hd fun v s' e' q => ⟨v, rfl, h v s' ?_ ?_⟩))
  · have := R.ext.trans e'
    rwa [cd.s0] at this
  · obtain ⟨a, vs, e1, e2, e3, e4⟩ := q
    refine ⟨a, vs, e1, e2, e3, e4.less fun b hb => mem_X.mpr (.inl (by rw [cd.x0]; exact hb))⟩
theorem sd_call0 (tp : TopP top) (ok : C.Ok n top) {x : Str} {p pos : Pos} {f : Addr} {k : Nat} {kvs : List (Str × PyData)} (g : Glb top x (.ref f)) (fo : FnObj top f) (F : FnDict prog w top C.base f k kvs) (hkn : k ≤ n)
    (hk : C.env.kindOf x = some .globalImplicit) (hd : (x == ("__debug__" : Str)) = false := by decide) : SD prog w C (.Call (.Name x p) [] [] pos) (dKvs kvs) := by
  intro its own σ s r Q E R hr h
  cases hr
  obtain ⟨o, fd, go, hdat⟩ := fo _ ok.top
  refine wpAny_Call_NameR (name_glob ok R hk (g _ ok.top) ?_ hd)
  refine callWith_function (o := o) (fd := fd) (PySem.evalArgs_none ⟨⟨R.seen' _ _ go, hdat⟩, ?_⟩)
  exact F C.A (C.X its own) s C.frs _ _ ⟨ok.room.handled, by have := ok.room.depth; omega, by have := ok.room.units; omega⟩ ok.frames R.frames (fun b o e => R.ext.keep _ _ (ok.bs b o e)) R.alloc (tp.mono _ _ R.seen ok.top) fun v s' e' q' => h v s' e' q'
/-- «x.extend([..])» -/
theorem ss_extend (ok : C.Ok n top) {i : Nat} {x : Str} {e : Expr} {p q q' pos : Pos} {d : DL} (hx : C.names[i]? = some x) (hk : kindOk C.env x = true) (he : SEo prog w C e d)
    (hbase : attributeBase (.Name x p) "extend" C.env (eval (.Name x p) C.env) = eval (.Name x p) C.env := by rfl)
    (hline : (q.endLine == q'.line) = true := by rfl) (htrees : backTo q' (starEach [e] C.env) = [(false, eval e C.env)] := by rfl)
    (hint : interactive C.env = false := by rfl) : SS prog w C (.Expr (.Call (.Attribute (.Name x p) "extend" q) [e] [] q') pos) (sExtend i (dComp d)) := by
  intro its own σ s o Q E R hd h
  obtain ⟨ds, xs, hr, hi, hl, rfl⟩ := sExtend_some hd
  have hr' : d σ = some ds := by
    unfold dComp at hr
    obtain ⟨z, hz, e⟩ := Option.map_eq_some_iff.mp hr
    cases e; exact hz
  refine wpAny_Expr_any (wpAny_Call_method1_late hbase hline htrees (name_own' ok R hx hk hi fun μ a ws m f v ev hm g qa => ?_)) hint
  refine ⟨"list", "list.extend", PySem.F.plainAttrs_list, PySem.F.slot_list_extend, PySem.F.type_list_extend, ⟨_, g, rfl⟩, fun b hb => by cases hb; exact ⟨_, g, rfl⟩, ?_⟩
  refine Calls.callWith_builtin rfl (Calls.evalArgs_plain (Calls.spliced_cons (he _ _ _ _ _ _ _ R hr' fun b ws2 m2 s₂ e₂ hb g2 q2 => Calls.spliced_nil ?_)))
  have ls := qa.length
  have l2 := q2.length
  rw [Array.length_toList] at ls l2
  have g₂ := e₂.keep _ _ g
  have hsz : ws.size + ws2.size ≤ sizeLine := by rw [ls, l2]; exact listLine_le hl
  refine call_meets PySem.F.slot_list_extend ⟨_, g₂, rfl⟩ PySem.F.entry_list_extend (PySem.F.args_list_extend_2 _ _) (PySem.AutoSeq1.list_extend_list_list_0 a ws m b ws2 m2 (extend_door hsz) (by omega) (by omega)) ⟨g₂, g2, ?_⟩
  have v₂ : C.Slots its own σ s₂.heap μ := fun j y sl a b => (v j y sl a b).grow e₂.keep
  obtain ⟨R', hc⟩ := own_update (f := Obj.mapSeq fun z => z ++ ws2) (ws' := ws ++ ws2) (xs' := xs ++ ds) (tk := s₂.toks) ok (R.grow e₂) hx (f.grow e₂.keep) v₂ ev hm g₂ rfl (by
    rw [Array.toList_append]
    exact (qa.grow e₂.keep).append (q2.less fun c hc => .tail _ hc))
  exact h _ _ _ R' ((Chg.ext e₂).trans hc)
end
end Mine
end
section
namespace Mine
open PySem PySem.W PySem.Calls PyProof.Rows
open PySem.SeqAt (shaped)
section
variable {prog : Program} {w : World} {C : Cx} {n : Nat} {top : Heap → Prop}

/-- a slot that may be read -/
structure VX (C : Cx) (i : Nat) (x : Str) : Prop where
  n : C.names[i]? = some x
  k : kindOk C.env x = true
/-- a slot that may be stored to -/
structure LX (C : Cx) (i : Nat) (x : Str) : Prop extends VX C i x where
  s : storeOk C x = true
noncomputable def plainName (x : Str) : Bool := !(x == ("__debug__" : Str)) && !(x == ("__classdict__" : Str))
theorem lx_local {ns : List Str} {sc : Scope} {i : Nat} {x : Str} (hN : C.names = ns) (hS : C.env.scope = sc) (hn : ns[i]? = some x) (hk : sc.names.lookup x = some .local) (hp : plainName x = true) : LX C i x := by
  have hk' : C.env.kindOf x = some .local := by unfold Env.kindOf; rw [hS]; exact hk
  unfold plainName at hp
  rw [Bool.and_eq_true] at hp
  refine ⟨⟨by rw [hN]; exact hn, ?_⟩, ?_⟩
  · unfold kindOk; rw [hk', hp.1]; rfl
  · unfold storeOk; rw [hk']
theorem lx_cell {ns : List Str} {sc : Scope} {i : Nat} {x : Str} {c : Addr} {cs : List (Str × Addr)} (hN : C.names = ns) (hS : C.env.scope = sc) (hC : C.env.cells = cs) (hP : C.priv = C.env.locals :: cs.map (·.2)) (hn : ns[i]? = some x) (hk : sc.names.lookup x = some .cell) (hp : plainName x = true) (hc : cs.lookup x = some c) : LX C i x := by
  have hk' : C.env.kindOf x = some .cell := by unfold Env.kindOf; rw [hS]; exact hk
  have hc' : C.env.cells.lookup x = some c := by rw [hC]; exact hc
  unfold plainName at hp
  rw [Bool.and_eq_true] at hp
  refine ⟨⟨by rw [hN]; exact hn, ?_⟩, ?_⟩
  · unfold kindOk; rw [hk']; simp only [hc', Option.isSome_some, hp.1, Bool.and_self]
  · unfold storeOk; rw [hk']
    simp only [hc', List.contains_eq_mem, decide_eq_true_eq]
    rw [hP]
    exact .tail _ (List.mem_map.mpr ⟨_, mem_lookup hc, rfl⟩)
theorem glb_of {sc : Scope} {x : Str} (hS : C.env.scope = sc) (hk : sc.names.lookup x = some .globalImplicit) : C.env.kindOf x = some .globalImplicit := by unfold Env.kindOf; rw [hS]; exact hk
/-! in a comprehension -/
theorem relabel_lookup {scope : Scope} {env : Env} {x : Str} : (relabel scope env).names.lookup x = (scope.names.lookup x).map fun k => if (k == .free && env.scope.kind == .function && env.kindOf x == some .cell) then .cell else k := by
  unfold relabel
  simp only
  induction scope.names with
  | nil => rfl
  | cons p r ih =>
    obtain ⟨y, k⟩ := p
    simp only [List.map_cons, List.lookup_cons]
    cases hb : x == y with
    | true =>
      have e : x = y := by simpa using hb
      subst e
      by_cases hc : (k == NameKind.free && env.scope.kind == .function && env.kindOf x == some .cell) = true
      · simp only [hc, if_true, List.lookup_cons, beq_self_eq_true, Option.map_some]
      · simp only [hc, if_false, Bool.false_eq_true, List.lookup_cons, beq_self_eq_true, Option.map_some]
    | false =>
      by_cases hc : (k == NameKind.free && env.scope.kind == .function && env.kindOf y == some .cell) = true
      · simp only [hc, if_true, List.lookup_cons, hb]; exact ih
      · simp only [hc, if_false, Bool.false_eq_true, List.lookup_cons, hb]; exact ih
theorem lx_comp {scope : Scope} {cl : List (Str × Addr)} {L : Addr} {names : List Str} {X : List Addr} {s' : Shared} {i : Nat} {x : Str} (hn : names[i]? = some x) (hk : scope.names.lookup x = some .local) (hp : plainName x = true) : LX (C.comp scope cl L names X s') i x := by
  have hk' : (C.comp scope cl L names X s').env.kindOf x = some .local := by
    show (relabel scope C.env).names.lookup x = some .local
    rw [relabel_lookup, hk]; rfl
  unfold plainName at hp
  rw [Bool.and_eq_true] at hp
  refine ⟨⟨hn, ?_⟩, ?_⟩
  · unfold kindOk; rw [hk', hp.1]; rfl
  · unfold storeOk; rw [hk']
theorem vx_comp {scope : Scope} {cl : List (Str × Addr)} {L : Addr} {names : List Str} {X : List Addr} {s' : Shared} {i : Nat} {x : Str} {c : Addr} {sc : Scope} (hS : C.env.scope = sc) (hf : sc.kind = .function) (hcx : sc.names.lookup x = some .cell)
    (hn : names[i]? = some x) (hk : scope.names.lookup x = some .free) (hc : cl.lookup x = some c) (hp : plainName x = true) : VX (C.comp scope cl L names X s') i x := by
  have hk' : (C.comp scope cl L names X s').env.kindOf x = some .cell := by
    show (relabel scope C.env).names.lookup x = some .cell
    rw [relabel_lookup, hk, hS, hf]
    have : C.env.kindOf x = some .cell := by unfold Env.kindOf; rw [hS]; exact hcx
    rw [this]; rfl
  have hc' : (C.comp scope cl L names X s').env.cells.lookup x = some c := hc
  unfold plainName at hp
  rw [Bool.and_eq_true] at hp
  refine ⟨hn, ?_⟩
  unfold kindOk; rw [hk']; simp only [hc', Option.isSome_some, hp.1, Bool.and_self]
theorem glb_comp {scope : Scope} {cl : List (Str × Addr)} {L : Addr} {names : List Str} {X : List Addr} {s' : Shared} {x : Str} (hk : scope.names.lookup x = some .globalImplicit) : (C.comp scope cl L names X s').env.kindOf x = some .globalImplicit := by
  show (relabel scope C.env).names.lookup x = some .globalImplicit
  rw [relabel_lookup, hk]; rfl
/-- how the block lies, for a comprehension that captures nothing -/
theorem compIn0 {scope : Scope} {k : Nat} {names : List Str} (kind : scope.kind = .function) (hn : (scope.names.all fun x => decide (x.2 ≠ .cell ∧ x.2 ≠ .free) && (decide (x.2 ≠ .local) || decide (scope.names.lookup x.1 = some .local))) = true) (nd : names.Nodup) : CompIn C scope [] k [] names := by
  rw [List.all_eq_true] at hn
  have hn' : ∀ x ∈ scope.names, (x.2 ≠ .cell ∧ x.2 ≠ .free) ∧ (x.2 = .local → scope.names.lookup x.1 = some .local) := fun x hx => by
    have := hn x hx
    simp only [Bool.and_eq_true, Bool.or_eq_true, decide_eq_true_eq] at this
    exact ⟨this.1, fun e => this.2.resolve_left fun q => q e⟩
  exact ⟨kind, fun x hx => (hn' x hx).1.1, fun x hx => (hn' x hx).2, closureFor_none fun x hx => (hn' x hx).1.2, (fun p hp => nomatch hp), List.Pairwise.nil, nd, fun j i h => by simp at h⟩
/-- .. and for one that captures cells of its frame -/
theorem compInC {scope sc : Scope} {cl : List (Str × Addr)} {k : Nat} {see : List Nat} {names : List Str} (hS : C.env.scope = sc) (hsk : sc.kind = .function) (clos : closureFor scope C.env = pure cl) (hcl : ∀ p ∈ cl, C.env.cells.lookup p.1 = some p.2)
    (kind : scope.kind = .function) (hn : (scope.names.all fun x => decide (x.2 ≠ .cell) && (decide (x.2 ≠ .local) || decide (scope.names.lookup x.1 = some .local))) = true) (clnd : (cl.map (·.1)).Nodup) (hck : ∀ p ∈ cl, sc.names.lookup p.1 = some .cell) (nd : names.Nodup)
    (seen : ∀ j i, see[j]? = some i → ∃ x, names[k + j]? = some x ∧ C.names[i]? = some x ∧ scope.names.lookup x = some .free ∧ sc.names.lookup x = some .cell) : CompIn C scope cl k see names := by
  rw [List.all_eq_true] at hn
  have hn' : ∀ x ∈ scope.names, x.2 ≠ .cell ∧ (x.2 = .local → scope.names.lookup x.1 = some .local) := fun x hx => by
    have := hn x hx
    simp only [Bool.and_eq_true, Bool.or_eq_true, decide_eq_true_eq] at this
    exact ⟨this.1, fun e => this.2.resolve_left fun q => q e⟩
  refine ⟨kind, fun x hx => (hn' x hx).1, fun x hx => (hn' x hx).2, clos, fun p hp => ⟨hcl p hp, ?_⟩, clnd, nd, fun j i h => ?_⟩
  · unfold Env.kindOf; rw [hS, hck p hp]; decide
  · obtain ⟨x, h1, h2, h3, h4⟩ := seen j i h
    refine ⟨x, h1, h2, ?_⟩
    rw [relabel_lookup, h3]
    simp only [Option.map_some]
    split <;> decide
theorem sb_gen {e : Expr} {d : DE} (he : SE prog w C e d) (hx : ∀ env whole, isTrue e env whole = (do let v ← whole; standAt e.pos; holding [v] (truthy v)) := by intro _ _; rfl) : SB prog w C e (bOf d) := by
  intro its own σ s res Q E R hd h
  unfold bOf b1 at hd
  split at hd
  · rename_i y hy
    unfold vTruth at hd
    split at hd
    · cases hd
      refine wpAny_isTrue_value (he _ _ _ _ _ _ _ R hy fun v s₁ e₁ ra => ?_) (hx _ _)
      rw [ra.ofBool]
      exact wpAny_truthy_bool (h s₁ e₁)
    · cases hd
  · cases hd

theorem not_interactive (ok : C.Ok n top) : interactive C.env = false := by
  unfold interactive; rw [ok.kind]; rfl
theorem swaps_true (ok : C.Ok n top) {i : Nat} {x : Str} {elt : Expr} {gs : List Comprehension} {sc : Scope} {scope : Scope} {p cpos pos : Pos} (hS : C.env.scope = sc) (hl : sc.names.lookup x = some .local) (hline : p.line = cpos.line)
    (hno : (scope.names.any fun y => y.1 == x && (y.2 == .local || y.2 == .cell)) = false) : swapsWith (.ListComp elt gs scope cpos) (some (.Name x p)) pos.line C.env = pure true := by
  have hb : C.env.blockKind = .function := by unfold Env.blockKind; rw [ok.kind]; rfl
  have hk : C.env.kindOf x = some .local := by unfold Env.kindOf; rw [hS]; exact hl
  show pure (C.env.blockKind == .function && C.env.kindOf x == some .local && p.line == cpos.line && !(scope.names.any fun y => y.1 == x && (y.2 == .local || y.2 == .cell))) = pure true
  rw [hb, hk, hline, hno]
  simp
theorem e_name (ok : C.Ok n top) {i : Nat} {x : Str} {pos : Pos} (l : VX C i x) : SE prog w C (.Name x pos) (dName i) := se_name ok l.n l.k
theorem b_name (ok : C.Ok n top) {i : Nat} {x : Str} {pos : Pos} (l : VX C i x) : SB prog w C (.Name x pos) (bOf (dName i)) := sb_name ok l.n l.k
theorem s_let (ok : C.Ok n top) {i : Nat} {x : Str} {e : Expr} {p pos : Pos} {d : DE} (l : LX C i x) (he : SE prog w C e d)
    (hsw : swapsWith e (some (.Name x p)) pos.line C.env = pure false := by rfl) : SS prog w C (.Assign [.Name x p] e pos) (sLet i d) := ss_let ok l.n l.s he hsw
theorem s_own (ok : C.Ok n top) {i : Nat} {x : Str} {e : Expr} {p pos : Pos} {d : DL} (l : LX C i x) (he : SEo prog w C e d)
    (hsw : swapsWith e (some (.Name x p)) pos.line C.env = pure false := by rfl) : SS prog w C (.Assign [.Name x p] e pos) (sOwn i d) := ss_own ok l.n l.s he hsw
theorem s_append (ok : C.Ok n top) {i : Nat} {x : Str} {e : Expr} {p q q' pos : Pos} {d : DE} (l : VX C i x) (he : SE prog w C e d)
    (hfew : ((backTo q' (starEach [e] C.env)).all (fun x => !x.1) && (backToKw q' (keywordEach [] C.env)).all (fun x => x.1.isSome)
      && decide (([e] : List Expr).length + ([] : List Keyword).length + (if ([] : List Keyword).isEmpty then 0 else 1) < 30)) = true := by rfl)
    (hline : (q.endLine == q'.line) = true := by rfl) (htrees : backTo q' (starEach [e] C.env) = [(false, eval e C.env)] := by rfl) :
    SS prog w C (.Expr (.Call (.Attribute (.Name x p) "append" q) [e] [] q') pos) (sAppend i d) := ss_append ok l.n l.k he rfl hfew hline htrees (not_interactive ok)
theorem s_extend (ok : C.Ok n top) {i : Nat} {x : Str} {e : Expr} {p q q' pos : Pos} {d : DL} (l : VX C i x) (he : SEo prog w C e d)
    (hline : (q.endLine == q'.line) = true := by rfl) (htrees : backTo q' (starEach [e] C.env) = [(false, eval e C.env)] := by rfl) :
    SS prog w C (.Expr (.Call (.Attribute (.Name x p) "extend" q) [e] [] q') pos) (sExtend i (dComp d)) := ss_extend ok l.n l.k he rfl hline htrees (not_interactive ok)
theorem s_setItem (ok : C.Ok n top) {i : Nat} {x : Str} {e k : Expr} {p q pos : Pos} {d dk : DE} (l : VX C i x) (hkk : SE prog w C k dk) (he : SE prog w C e d)
    (hsw : swapsWith e (some (.Subscript (.Name x p) k q)) pos.line C.env = pure false := by rfl) : SS prog w C (.Assign [.Subscript (.Name x p) k q] e pos) (sSetItem i dk d) := ss_setItem ok l.n l.k he hkk hsw
theorem s_freeze (ok : C.Ok n top) {i : Nat} {x : Str} {rest : List Stmt} {ds : List DS} (l : VX C i x) (h2 : SSs prog w C rest (sSeq ds)) : SSs prog w C rest (sSeq (sFreeze i :: ds)) := sss_freeze ok l.n h2
theorem e_ownLen (ok : C.Ok n top) {i : Nat} {x : Str} {p q pos : Pos} (l : VX C i x) (g : Glb top "len" (.builtin "len")) (hl : C.env.kindOf "len" = some .globalImplicit) :
    SE prog w C (.Call (.Name "len" p) [.Name x q] [] pos) (dOwnLen i) := se_ownLen ok l.n l.k g hl
theorem e_ownItem (ok : C.Ok n top) {i : Nat} {x : Str} {e : Expr} {q pos : Pos} {d : DE} (l : VX C i x) (he : SE prog w C e d)
    (hs : ∀ o k, subscripted e false o k = operate [o, k] (getItem o k) := by intro _ _; rfl) : SE prog w C (.Subscript (.Name x q) e pos) (dOwnItem i d) := se_ownItem ok l.n l.k he hs
theorem t_name (ok : C.Ok n top) {i : Nat} {x : Str} {p : Pos} (l : LX C i x) : ST prog w C (.Name x p) (toOne i) := st_name ok l.n l.s
theorem nm_cons {i : Nat} {x : Str} {p : Pos} {es : List Expr} {is : List Nat} (l : LX C i x) (r : Names C es is) : Names C (.Name x p :: es) (i :: is) := .cons l.n l.s r
theorem a_slot (ok : C.Ok n top) {i : Nat} {x : Str} {pos : Pos} (l : VX C i x) : SA prog w C (.Name x pos) (aSlot i) := sa_slot ok l.n l.k
end
end Mine
end
section
namespace Mine
open PySem PySem.W PySem.Calls PyProof.Rows
open PySem.SeqAt (shaped)
noncomputable def clOf (env : Env) (names : List (Str × NameKind)) (acc : List (Str × Addr)) : List (Str × Addr) :=
  names.foldl (fun acc p => if p.2 == .free then (p.1, (env.cells.lookup p.1).getD 0) :: acc else acc) acc
theorem closure_go {env : Env} : ∀ (names : List (Str × NameKind)) (acc : List (Str × Addr)), (∀ p ∈ names, p.2 = .free → (env.cells.lookup p.1).isSome = true) →
    (forIn names acc fun (x : Str × NameKind) (cs : List (Str × Addr)) => (if x.2 == .free then do let a ← cellOf env x.1; pure (ForInStep.yield ((x.1, a) :: cs)) else pure (ForInStep.yield cs) : Sem (ForInStep (List (Str × Addr))))) = pure (clOf env names acc)
  | [], acc, _ => rfl
  | (x, k) :: r, acc, h => by
    rw [List.forIn_cons]
    have ih := fun acc => closure_go (env := env) r acc fun p hp => h p (.tail _ hp)
    by_cases hk : k = .free
    · subst hk
      obtain ⟨c, hc⟩ := Option.isSome_iff_exists.mp (h (x, .free) (.head _) rfl)
      have hco : cellOf env x = pure c := by unfold cellOf; rw [hc]
      simp only [beq_self_eq_true, if_true]
      rw [hco]
      refine Eq.trans (ih ((x, c) :: acc)) ?_
      simp [clOf, hc]
    · have : (k == NameKind.free) = false := by simpa using hk
      simp only [this, Bool.false_eq_true, if_false]
      refine Eq.trans (ih acc) ?_
      simp [clOf, hk]
theorem closure_eq {env : Env} {scope : Scope} (h : ∀ p ∈ scope.names, p.2 = .free → (env.cells.lookup p.1).isSome = true) : closureFor scope env = pure (clOf env scope.names []) := by
  unfold closureFor
  simp only
  have := closure_go (env := env) scope.names [] h
  first
    | exact this
    | (rw [show (forIn scope.names ([] : List (Str × Addr)) _ : Sem _) = pure (clOf env scope.names []) from this]; rfl)
    | (show (forIn scope.names ([] : List (Str × Addr)) _ >>= fun cs => pure cs) = _
       rw [this]; rfl)
section
variable {prog : Program} {w : World} {C : Cx} {n : Nat} {top : Heap → Prop}
theorem comp0 {elt tgt iter : Expr} {ifs : List Expr} {scope : Scope} {k : Nat} {T : PyData → St → Option St} {src : DL} {test : DB} {de : DE} (names : List Str)
    (kind : scope.kind = .function) (hn : (scope.names.all fun x => decide (x.2 ≠ .cell ∧ x.2 ≠ .free) && (decide (x.2 ≠ .local) || decide (scope.names.lookup x.1 = some .local))) = true) (nd : names.Nodup) (tg : Tgt k T) (si : SI prog w C iter src)
    (hin : ∀ L X s', (C.comp scope [] L names X s').Ok n top → ST prog w (C.comp scope [] L names X s') tgt T ∧ STs prog w (C.comp scope [] L names X s') ifs test ∧ SE prog w (C.comp scope [] L names X s') elt de)
    (fold : ∀ x, foldedSetIterable iter C.env x = pure x := by intro _; rfl) : CompD prog w C n top elt tgt iter ifs scope k [] T src test de :=
  ⟨⟨[], names, compIn0 kind hn nd, hin⟩, tg, si, fold⟩
/-- one that captures -/
theorem compC {elt tgt iter : Expr} {ifs : List Expr} {scope sc : Scope} {k : Nat} {see : List Nat} {T : PyData → St → Option St} {src : DL} {test : DB} {de : DE} (names caps : List Str) (hS : C.env.scope = sc) (hsk : sc.kind = .function)
    (kind : scope.kind = .function) (hn : (scope.names.all fun x => decide (x.2 ≠ .cell) && (decide (x.2 ≠ .local) || decide (scope.names.lookup x.1 = some .local))) = true)
    (hfr : (scope.names.all fun x => decide (x.2 ≠ .free) || caps.contains x.1) = true) (hcc : ∀ x ∈ caps, sc.names.lookup x = some .cell) (hce : ∀ x ∈ caps, (C.env.cells.lookup x).isSome = true)
    (hnd : ((scope.names.filter fun x => x.2 == .free).map (·.1)).Nodup) (nd : names.Nodup)
    (seen : ∀ j i, see[j]? = some i → ∃ x, names[k + j]? = some x ∧ C.names[i]? = some x ∧ scope.names.lookup x = some .free ∧ sc.names.lookup x = some .cell) (tg : Tgt k T) (si : SI prog w C iter src)
    (hin : ∀ L X s', (C.comp scope (clOf C.env scope.names []) L names X s').Ok n top → ST prog w (C.comp scope (clOf C.env scope.names []) L names X s') tgt T ∧ STs prog w (C.comp scope (clOf C.env scope.names []) L names X s') ifs test ∧ SE prog w (C.comp scope (clOf C.env scope.names []) L names X s') elt de)
    (fold : ∀ x, foldedSetIterable iter C.env x = pure x := by intro _; rfl) : CompD prog w C n top elt tgt iter ifs scope k see T src test de := by
  rw [List.all_eq_true] at hfr
  have hfr' : ∀ p ∈ scope.names, p.2 = .free → p.1 ∈ caps := fun p hp e => by
    have := hfr p hp
    simp only [Bool.or_eq_true, decide_eq_true_eq, List.contains_eq_mem] at this
    exact this.resolve_left fun q => q e
  have gen : ∀ (l : List (Str × NameKind)) (acc : List (Str × Addr)), (∀ p ∈ l, p ∈ scope.names) → ∀ q ∈ clOf C.env l acc, q ∈ acc ∨ (q.1 ∈ caps ∧ C.env.cells.lookup q.1 = some q.2) := by
    intro l
    induction l with
    | nil => intro acc _ q hq; exact .inl hq
    | cons p r ih =>
      intro acc hm q hq
      have hq' : q ∈ clOf C.env r (if p.2 == .free then (p.1, (C.env.cells.lookup p.1).getD 0) :: acc else acc) := hq
      rcases ih _ (fun x hx => hm x (.tail _ hx)) q hq' with h | h
      · split at h
        · rename_i hf
          rcases List.mem_cons.mp h with e | h
          · right
            have hc := hfr' p (hm p (.head _)) (by simpa using hf)
            obtain ⟨c, e'⟩ := Option.isSome_iff_exists.mp (hce _ hc)
            subst e
            exact ⟨hc, by simp [e']⟩
          · exact .inl h
        · exact .inl h
      · exact .inr h
  have gen' : ∀ q ∈ clOf C.env scope.names [], q.1 ∈ caps ∧ C.env.cells.lookup q.1 = some q.2 := fun q hq => (gen scope.names [] (fun _ h => h) q hq).resolve_left (by simp)
  have keys : ∀ (l : List (Str × NameKind)) (acc : List (Str × Addr)), (clOf C.env l acc).map (·.1) = ((l.filter fun x => x.2 == .free).map (·.1)).reverse ++ acc.map (·.1) := by
    intro l
    induction l with
    | nil => intro acc; simp [clOf]
    | cons p r ih =>
      intro acc
      show (clOf C.env r (if p.2 == .free then (p.1, (C.env.cells.lookup p.1).getD 0) :: acc else acc)).map (·.1) = _
      rw [ih]
      by_cases hf : (p.2 == NameKind.free) = true
      · simp [hf, List.filter_cons]
      · simp [hf, List.filter_cons]
  exact ⟨⟨_, names, compInC hS hsk (closure_eq fun p hp e => hce _ (hfr' p hp e)) (fun p hp => (gen' p hp).2) kind hn (by rw [keys, List.map_nil, List.append_nil, List.Nodup, List.pairwise_reverse]; exact hnd.imp fun h => Ne.symm h) (fun p hp => hcc _ (gen' p hp).1) nd seen, hin⟩, tg, si, fold⟩
theorem cl_lookup {scope : Scope} {x : Str} (hk : (scope.names.filter fun p => p.2 == .free) = [(x, .free)]) : (clOf C.env scope.names []).lookup x = some ((C.env.cells.lookup x).getD 0) := by
  have gen : ∀ (l : List (Str × NameKind)) (acc : List (Str × Addr)), clOf C.env l acc = clOf C.env (l.filter fun p => p.2 == .free) acc := by
    intro l
    induction l with
    | nil => intro acc; rfl
    | cons p r ih =>
      intro acc
      by_cases hf : (p.2 == NameKind.free) = true
      · rw [List.filter_cons_of_pos (p := fun p : Str × NameKind => p.2 == .free) hf]
        show clOf C.env r (if p.2 == .free then _ else acc) = clOf C.env _ (if p.2 == .free then _ else acc)
        rw [ih]
      · rw [List.filter_cons_of_neg (p := fun p : Str × NameKind => p.2 == .free) hf]
        show clOf C.env r (if p.2 == .free then _ else acc) = _
        rw [if_neg hf, ih]
  rw [gen, hk]
  simp [clOf]
end
/-! ### the base: a written part of the heap -/
abbrev excBm : List Value := [.type "Exception", .type "BaseException", .type "object"]
/-- what is written of the heap, and the heap itself -/
structure KB where
  frag : Frag
  base : Heap
structure KTop (K : KB) (g : Heap) : Prop where
  frag : K.frag.In g
  keep : ∀ b o, K.base.get? b = some o → g.get? b = some o
  lim : g.NoLimit
  seer : g.NoSeer
  names : ∃ mg mb, g.Ns mainGlobals mg ∧ g.Ns builtinsNs mb ∧ ∀ x : Str, x ≠ "__name__" → mb x = bootBuiltins x
  own : ∃ mg Ce, g.Ns mainGlobals mg ∧ OwnCls "RunError" Ce excBm "Exception.__new__" mg g
theorem ktop_p {K : KB} : TopP (KTop K) where
  mono := fun g g' k t => ⟨t.frag.keeps k, fun b o e => k b o (t.keep b o e), t.lim.keeps k, t.seer.keeps k, let ⟨mg, mb, a, b, c⟩ := t.names; ⟨mg, mb, a.keeps k, b.keeps k, c⟩, let ⟨mg, Ce, a, b⟩ := t.own; ⟨mg, Ce, a.keeps k, b.keeps k⟩⟩
  lim := fun g t => t.lim
  seer := fun g t => t.seer
theorem glb_fn {K : KB} {x : Str} {v : Value} (h : nsIn K.frag mainGlobals x = some (some v)) : Glb (KTop K) x v := fun g t => by
  obtain ⟨mg, mb, a, b, c⟩ := t.names
  exact .inl ⟨mg, a, mg_of t.frag a h⟩
theorem glb_bi {K : KB} {x : Str} {v : Value} (h : nsIn K.frag mainGlobals x = some none) (hb : bootBuiltins x = some v) (hn : x ≠ "__name__") : Glb (KTop K) x v := fun g t => by
  obtain ⟨mg, mb, a, b, c⟩ := t.names
  exact .inr ⟨mg, mb, a, mg_none_of t.frag a h, b, (c x hn).trans hb⟩
/-- the program's own exception class -/
noncomputable def ErrC (top : Heap → Prop) (Ce : Addr) : Prop := ∀ g, top g → ∃ mg, g.Ns mainGlobals mg ∧ OwnCls "RunError" Ce excBm "Exception.__new__" mg g
theorem errC_of {K : KB} {Ce : Addr} (h : nsIn K.frag mainGlobals "RunError" = some (some (.ref Ce))) : ErrC (KTop K) Ce := fun g t => by
  obtain ⟨mg, C', a, b⟩ := t.own
  have h1 := mg_of t.frag a h
  have h2 := b.bound
  rw [h1] at h2
  cases h2
  exact ⟨mg, a, b⟩
structure FunK (K : KB) (x : Str) (a : Addr) (fd : FuncData) : Prop where
  g : ∃ mg, K.base.Ns mainGlobals mg ∧ mg x = some (.ref a)
  o : ∃ o, K.base.get? a = some o ∧ o.data = .func fd
  c : K.base.CodeRec fd.code fd.qualname
theorem FunK.hf {K : KB} {x : Str} {a : Addr} {fd : FuncData} (F : FunK K x a fd) : ∀ g, KTop K g → ∃ o, g.get? a = some o ∧ o.data = .func fd ∧ g.CodeRec fd.code fd.qualname := fun g t =>
  let ⟨o, e, d⟩ := F.o; ⟨o, t.keep _ _ e, d, F.c.keeps t.keep⟩
theorem FunK.obj {K : KB} {x : Str} {a : Addr} {fd : FuncData} (F : FunK K x a fd) : FnObj (KTop K) a := fun g t =>
  let ⟨o, e, d⟩ := F.o; ⟨o, fd, t.keep _ _ e, d⟩
theorem FunK.glb {K : KB} {x : Str} {a : Addr} {fd : FuncData} (F : FunK K x a fd) : Glb (KTop K) x (.ref a) := fun g t =>
  let ⟨mg, n, e⟩ := F.g; .inl ⟨mg, n.keeps t.keep, e⟩
theorem len0 {α : Type} {l : List α} (h : l.length = 0) : l = [] := List.length_eq_zero_iff.mp h
theorem len1 {α : Type} {l : List α} (h : l.length = 1) : ∃ a, l = [a] := List.length_eq_one_iff.mp h
theorem len2' {α : Type} {l : List α} (h : l.length = 2) : ∃ a b, l = [a, b] := by
  match l, h with
  | [a, b], _ => exact ⟨a, b, rfl⟩
theorem len3 {α : Type} {l : List α} (h : l.length = 3) : ∃ a b c, l = [a, b, c] := by
  match l, h with
  | [a, b, c], _ => exact ⟨a, b, c, rfl⟩
theorem len4 {α : Type} {l : List α} (h : l.length = 4) : ∃ a b c d, l = [a, b, c, d] := by
  match l, h with
  | [a, b, c, d], _ => exact ⟨a, b, c, d, rfl⟩
noncomputable def fnDef (p : Program) (i : Nat) : Option (Arguments × List Stmt × Scope) := match p.main.body[i]? with
  | some (.FunctionDef _ a b _ _ _ sc _ _ _) => some (a, b, sc)
  | _ => none
noncomputable def fnArgs (p : Program) (i : Nat) : Arguments := match fnDef p i with
  | some (a, _, _) => a
  | none => ⟨[], [], none, [], [], none, []⟩
noncomputable def fnBody (p : Program) (i : Nat) : List Stmt := match fnDef p i with
  | some (_, b, _) => b
  | none => []
noncomputable def fnScope (p : Program) (i : Nat) : Scope := match fnDef p i with
  | some (_, _, sc) => sc
  | none => { kind := .module, names := [], isGenerator := false, isCoroutine := false, more := [] }
end Mine
end
section
namespace Mine
open PySem PySem.W PySem.Calls PyProof.Rows
open PySem.SeqAt (shaped)
noncomputable def Shape (P : Program) (fd : FuncData) (x : Str) (i : Nat) : Prop := ∃ qual kV doc pm an cdv ct, fd = fnOf x qual (fnArgs P i) (fnBody P i) (fnScope P i) .none kV doc pm an cdv ct
theorem nodup_lookup {α : Type} : ∀ {l : List (Str × α)} {p : Str × α}, (l.map (·.1)).Nodup → p ∈ l → l.lookup p.1 = some p.2
  | [], p, _, h => by cases h
  | (k, v) :: r, p, nd, h => by
    rw [List.map_cons, List.nodup_cons] at nd
    rcases List.mem_cons.mp h with e | h
    · subst e; simp
    · have hne : (p.1 == k) = false := by
        rw [beq_eq_false_iff_ne]
        intro e
        exact nd.1 (List.mem_map.mpr ⟨p, h, e⟩)
      rw [List.lookup_cons, hne]
      exact nodup_lookup nd.2 h
theorem cells_of {names : List (Str × NameKind)} (h : ((cellsFrom 1 names []).map (·.1)).Nodup) : ∀ (L : Addr) (p : Str × Addr), p ∈ cellsFrom (L + 1) names [] → (cellsFrom (L + 1) names []).lookup p.1 = some p.2 := fun L p hp =>
  nodup_lookup (by rw [cellsFrom_names names (L + 1) 1 [] [] rfl]; exact h) hp
theorem seen_of {C : Cx} {ns names : List Str} {see : List Nat} {k : Nat} {scope sc : Scope} (hN : C.names = ns)
    (h : ((List.range see.length).all fun j => match see[j]? with
      | some i => (match names[k + j]? with
        | some x => decide (ns[i]? = some x) && decide (scope.names.lookup x = some .free) && decide (sc.names.lookup x = some .cell)
        | none => false)
      | none => false) = true) : ∀ j i, see[j]? = some i → ∃ x, names[k + j]? = some x ∧ C.names[i]? = some x ∧ scope.names.lookup x = some .free ∧ sc.names.lookup x = some .cell := by
  intro j i hj
  rw [List.all_eq_true] at h
  have := h j (List.mem_range.mpr (List.getElem?_eq_some_iff.mp hj).1)
  rw [hj] at this
  simp only at this
  split at this
  · rename_i x hx
    simp only [Bool.and_eq_true, decide_eq_true_eq] at this
    exact ⟨x, hx, by rw [hN]; exact this.1.1, this.1.2, this.2⟩
  · cases this
section
variable {prog : Program} {w : World} {C : Cx} {n : Nat} {top : Heap → Prop}
theorem cl_lookup2 {scope : Scope} {x y : Str} {k : Str} (hk : (scope.names.filter fun p => p.2 == .free) = [(x, .free), (y, .free)]) (h : k = x ∨ k = y) : ∃ c, (clOf C.env scope.names []).lookup k = some c := by
  have gen : ∀ (l : List (Str × NameKind)) (acc : List (Str × Addr)), clOf C.env l acc = clOf C.env (l.filter fun p => p.2 == .free) acc := by
    intro l
    induction l with
    | nil => intro acc; rfl
    | cons p r ih =>
      intro acc
      by_cases hf : (p.2 == NameKind.free) = true
      · rw [List.filter_cons_of_pos (p := fun p : Str × NameKind => p.2 == .free) hf]
        show clOf C.env r (if p.2 == .free then _ else acc) = clOf C.env _ (if p.2 == .free then _ else acc)
        rw [ih]
      · rw [List.filter_cons_of_neg (p := fun p : Str × NameKind => p.2 == .free) hf]
        show clOf C.env r (if p.2 == .free then _ else acc) = _
        rw [if_neg hf, ih]
  rw [gen, hk]
  simp only [clOf, List.foldl_cons, List.foldl_nil, beq_self_eq_true, if_true]
  by_cases e : k = y
  · subst e; exact ⟨_, by simp [List.lookup_cons]; rfl⟩
  · rcases h with h | h
    · subst h
      have : (k == y) = false := by simpa using e
      exact ⟨_, by simp [List.lookup_cons, this]; rfl⟩
    · exact absurd h e
end
noncomputable def opsD : PyData := .tuple [.str "ADD", .str "SUB", .str "MUL", .str "DIV", .str "MOD", .str "LT", .str "LE", .str "EQ", .str "NE", .str "GT", .str "GE"]
noncomputable def signsD : PyData := .tuple [.str "+", .str "-", .str "*", .str "//", .str "%", .str "<", .str "<=", .str "==", .str "!=", .str ">", .str ">="]
noncomputable def signOf : List (Str × PyData) := [("ADD", .str "+"), ("SUB", .str "-"), ("MUL", .str "*"), ("DIV", .str "//"), ("MOD", .str "%"), ("LT", .str "<"), ("LE", .str "<="), ("EQ", .str "=="), ("NE", .str "!="), ("GT", .str ">"), ("GE", .str ">=")]
noncomputable def kvs_law_holds : List (Str × PyData) := [("LT", .tuple [.int 1, .int 0, .int 0]), ("LE", .tuple [.int 1, .int 1, .int 0]), ("EQ", .tuple [.int 0, .int 1, .int 0]), ("NE", .tuple [.int 1, .int 0, .int 1]), ("GT", .tuple [.int 0, .int 0, .int 1]), ("GE", .tuple [.int 0, .int 1, .int 1])]
end Mine
end
section
namespace Mine
open PySem PySem.W PySem.Calls PyProof.Rows
abbrev frAt (l : List Env) : List Addr := l.filterMap (·.frame)
/-- an exception has come up to the frames l: only their slots have changed, and what was made is new -/
structure Flew (l : List Env) (e : Addr) (cls : Value) (s s' : Shared) : Prop where
  same : ∃ h tk, s' = { s with heap := h, toks := tk }
  fly : ∃ a0, Heap.FlyingW (hideAll s.heap (frAt l)) l e cls a0 s'.heap
  slots : s.heap.UpToSlots s'.heap
theorem Flew.ext {l : List Env} {e : Addr} {cls : Value} {s s₁ s' : Shared} (x : Ext s s₁) (f : Flew l e cls s₁ s') : Flew l e cls s s' := by
  obtain ⟨h, tk, rfl⟩ := x.same
  obtain ⟨h', tk', rfl⟩ := f.same
  obtain ⟨a0, y⟩ := f.fly
  exact ⟨⟨_, _, rfl⟩, ⟨a0, flyingW_base (hid_sub fun b o nb e => ⟨x.keep b o e, nb⟩) y⟩, (Heap.UpToSlots.of_keeps x.keep).trans f.slots⟩
section
variable {prog : Program} {w : World} {C : Cx} {n : Nat} {top : Heap → Prop}
noncomputable def SR (prog : Program) (w : World) (C : Cx) (sts : List Stmt) (Ce : Addr) (P : St → Prop) : Prop :=
  ∀ its own σ s (Q : Flow → Shared → Prop) (E : Value → Shared → Prop), Rel C its own σ s → P σ →
    (∀ e s₂ h' vs, Ext s s₂ → Heap.MadeExcOf s₂.heap h' e (.ref Ce) vs → E (.ref e) { s₂ with heap := h' }) → wpAny (model prog w) C.A (execs sts C.env) Q E s
theorem sr_skip {c : Expr} {body rest : List Stmt} {pos : Pos} {d : DB} {Ce : Addr} {P : St → Prop} (hc : SB prog w C c d) (hP : ∀ σ, P σ → d σ = some false) (hr : SR prog w C rest Ce P) : SR prog w C (.If c body [] pos :: rest) Ce P := by
  intro its own σ s Q E R p h
  refine wpAny_execs_cons (wpAny_If (hc _ _ _ _ _ _ _ R (hP σ p) fun s₁ e₁ => ?_))
  rw [if_neg Bool.false_ne_true]
  exact wpAny_execs_nil (hr _ _ _ _ _ _ (R.grow e₁) p fun e s₂ h' vs e₂ m => h e s₂ h' vs (e₁.trans e₂) m)
theorem sr_take {c : Expr} {body els rest : List Stmt} {pos : Pos} {d : DB} {Ce : Addr} {P : St → Prop} (hc : SB prog w C c d) (hP : ∀ σ, P σ → d σ = some true) (hr : SR prog w C body Ce P) : SR prog w C (.If c body els pos :: rest) Ce P := by
  intro its own σ s Q E R p h
  refine wpAny_execs_cons (wpAny_If (hc _ _ _ _ _ _ _ R (hP σ p) fun s₁ e₁ => ?_))
  rw [if_pos rfl]
  exact hr _ _ _ _ _ _ (R.grow e₁) p fun e s₂ h' vs e₂ m => h e s₂ h' vs (e₁.trans e₂) m
theorem sr_raise (ok : C.Ok n top) {Ce : Addr} (ec : ErrC top Ce) {m : Str} {k : Nat} {np p cpos pos : Pos} {rest : List Stmt} {P : St → Prop} (hk : C.env.kindOf "RunError" = some .globalImplicit) :
    SR prog w C (.Raise (some (.Call (.Name "RunError" np) [.Constant (.str m) k p] [] cpos)) none pos :: rest) Ce P := by
  intro its own σ s Q E R _ h
  obtain ⟨mg, hg, O⟩ := ec _ ok.top
  obtain ⟨tl, N, nm, q, bs, hdct, sn, sub, ab, col, dd, k0, k1, k2, k3, k5, mN, hC, hN, hni, T⟩ := O.obj
  refine wpAny_execs_cons ?_
  refine wpAny_Raise_call_subT (C := Ce) (nm := nm) (q := q) (N := N) (bs := bs) (bm := tl) (hdct := hdct) (sn := sn) (sub := sub) (ab := ab) (col := col) (dd := dd) (k0 := k0) (k1 := k1) (k2 := k2) (k3 := k3) (k5 := k5)
    PySem.F.excBase_Exception (mN := mN) (T.hasType PySem.F.excBase_Exception.hasBase) ok.room.handled rfl hni (name_glob ok R hk (.inl ⟨mg, hg, O.bound⟩) ⟨rfl, ?_⟩)
  refine Calls.evalArgs_plain (Calls.spliced_cons (wpAny_Constant_str (k := k) (pos := p) (Calls.spliced_nil ?_)))
  refine ⟨rfl, by show 1 ≤ sizeLine; decide, R.seen' _ _ hC, hN.keeps R.seen', T.keeps R.seen', fun h' e mk => h e _ h' _ (Ext.tok _) mk⟩
/-- a call that raises -/
noncomputable def FnRaise (prog : Program) (w : World) (top : Heap → Prop) (base : Heap) (f : Addr) (k : Nat) (Ce : Addr) (P : List Slot → Prop) : Prop :=
  ∀ (A : Around) (X : List Addr) (s : Shared) (frs : List Env) (args : List Value) (ds : List Slot) (Q : Value → Shared → Prop) (E : Value → Shared → Prop), Room A k → A.frames = some frs → s.heap.FunFrames base frs → Sub base s.heap →
    (∀ p ∈ X, ∃ o, s.heap.get? p = some o) → top (hideAll s.heap X) → ArgsAre X s.heap args ds → P ds → (∀ e s', Flew frs e (.ref Ce) s s' → E (.ref e) s') → wpAny (model prog w) A (call (.ref f) args) Q E s
theorem frAt_in {l : List Env} : ∀ env ∈ l, ∀ a, env.frame = some a → a ∈ frAt l := fun env he a ha => List.mem_filterMap.mpr ⟨env, he, ha⟩
theorem fn_raise (tp : TopP top) {base : Heap} {f : Addr} {fd : FuncData} {body : List Stmt} {ps rest : List Str} {k : Nat} {Ce : Addr} {P : List Slot → Prop} (hf : ∀ g, top g → ∃ o, g.get? f = some o ∧ o.data = .func fd ∧ g.CodeRec fd.code fd.qualname) (d : FnD fd body ps rest)
    (hl : ∀ ds, P ds → ds.length = ps.length)
    (hS : ∀ C : Cx, C.Ok k top → C.names = ps ++ rest → C.env.scope = fd.scope → C.base = base → SR prog w C body Ce (fun σ => ∃ ds, P ds ∧ σ = ds ++ List.replicate rest.length .no)) :
    FnRaise prog w top base f (k + 1) Ce P := by
  intro A X s frs args ds Q E rm hfr hff hbs al ht hargs hP h
  refine fn_core tp hf d rm hfr hff hbs al ht hargs (hl _ hP) fun C ok cd s₁ R => ?_
  obtain ⟨L, h1, h2, h3⟩ := cd.loc
  refine hS C ok cd.names cd.scope cd.base _ _ _ _ _ _ R ⟨ds, hP, rfl⟩ fun e s₂ h' vs e₂ mk => ?_
  have R₂ := R.grow e₂
  have hfrm : C.env.frame = some L := by rw [h1]; rfl
  have hfrs : C.A.frames = some (C.env :: frs) := by rw [ok.frames, cd.frs]
  have hFF := R₂.frames
  rw [cd.frs] at hFF
  refine wpAny_leaves_madeW (base := hideAll s₂.heap (frAt (C.env :: frs))) hfrs hfrm (fun b o q => of_hideAll _ q) (funFrames_hide hFF frAt_in) mk fun h'' t x1 x2 x3 x4 => ?_
  have ex : Ext s s₂ := by have := R₂.ext; rwa [cd.s0] at this
  refine h e _ ⟨?_, ⟨_, flyingW_base (fun b o q => ?_) x1⟩, ?_⟩
  · obtain ⟨h3, tk, rfl⟩ := ex.same
    exact ⟨_, _, rfl⟩
  · refine hideAll_get _ (ex.keep b o (of_hideAll _ q)) fun hm => ?_
    obtain ⟨env, he, hfe⟩ := List.mem_filterMap.mp hm
    rcases List.mem_cons.mp he with z | z
    · rw [z, hfrm] at hfe
      cases hfe
      have := of_hideAll _ q
      rw [h3] at this; cases this
    · exact hid_mem q (frAt_in env z b hfe)
  · exact (Heap.UpToSlots.of_keeps fun b o q => mk.keeps b o (ex.keep b o q)).trans x4
/-- an expression that raises -/
noncomputable def SRe (prog : Program) (w : World) (C : Cx) (x : Expr) (Ce : Addr) (P : St → Prop) : Prop :=
  ∀ its own σ s (Q : Value → Shared → Prop) (E : Value → Shared → Prop), Rel C its own σ s → P σ → (∀ e s', Flew C.frs e (.ref Ce) s s' → E (.ref e) s') → wpAny (model prog w) C.A (eval x C.env) Q E s
theorem sre_call (tp : TopP top) (ok : C.Ok n top) {x : Str} {e : Expr} {es : List Expr} {p pos : Pos} {das : List DA} {f Ce : Addr} {P : List Slot → Prop} {k : Nat} (g : Glb top x (.ref f)) (fo : FnObj top f) (F : FnRaise prog w top C.base f k Ce P) (hkn : k ≤ n)
    (ha : SAs prog w C (e :: es) (aAll das)) (hk : C.env.kindOf x = some .globalImplicit) (hd : (x == ("__debug__" : Str)) = false := by decide)
    (hx : starEach (e :: es) C.env = (false, eval e C.env) :: starEach es C.env := by rfl) : SRe prog w C (.Call (.Name x p) (e :: es) [] pos) Ce (fun σ => ∃ ds, aAll das σ = some ds ∧ P ds) := by
  intro its own σ s Q E R hr h
  obtain ⟨ds, hds, hP⟩ := hr
  obtain ⟨o, fd, go, hdat⟩ := fo _ ok.top
  refine wpAny_Call_NameR (name_glob ok R hk (g _ ok.top) ?_ hd)
  refine callWith_def (o := o) (fd := fd) hdat (ha _ _ _ _ _ _ _ _ R hds fun vs s₁ e₁ q => ?_) hx
  have R₁ := R.grow e₁
  refine ⟨R₁.seen' _ _ go, ?_⟩
  exact F C.A (C.X its own) s₁ C.frs vs ds _ _ ⟨ok.room.handled, by have := ok.room.depth; omega, by have := ok.room.units; omega⟩ ok.frames R₁.frames (fun b o e => R₁.ext.keep _ _ (ok.bs b o e)) R₁.alloc (tp.mono _ _ R₁.seen ok.top) q hP fun e s' fl => h e s' (fl.ext e₁)
end
end Mine
end
section
namespace Mine
open PySem PySem.W PySem.Calls PyProof.Rows
/-- only the slots of the outer frames have changed -/
structure Turn (fs : List Addr) (s s' : Shared) : Prop where
  same : ∃ h tk, s' = { s with heap := h, toks := tk }
  other : ∀ b o, s.heap.get? b = some o → b ∉ fs → s'.heap.get? b = some o
section
variable {prog : Program} {w : World} {C : Cx} {n : Nat} {top : Heap → Prop}
structure Lone (C : Cx) (outer : List Env) : Prop where
  frs : C.frs = C.env :: outer
  frm : C.env.frame = some C.env.locals
  cells : C.env.cells = []
  hid : ∀ b ∈ frAt outer, b ∈ C.X0
theorem turn_rel (tp : TopP top) (ok : C.Ok n top) {outer : List Env} (lo : Lone C outer) {its own σ s} {h : Heap} {tk : Nat} (R : Rel C its own σ s) (hB : Sub (hideAll s.heap (frAt C.frs)) h) (hsm : s.heap.UpToSlots h) :
    ∃ s0', ({ C with s0 := s0' } : Cx).Ok n top ∧ Rel { C with s0 := s0' } its own σ { s with heap := h, toks := tk } ∧ Turn (frAt outer) C.s0 s0' ∧ (outer = [] → s0' = C.s0) := by
  have hL0 : C.s0.heap.get? C.env.locals = none := R.fresh _ (List.mem_append_left _ ok.loc)
  have hfs : ∀ b ∈ frAt outer, ∃ o, C.s0.heap.get? b = some o := fun b hb => ok.x0 b (lo.hid b hb)
  have hfr := R.frames
  rw [lo.frs] at hfr
  have inF : ∀ b, b ∈ frAt C.frs → b = C.env.locals ∨ b ∈ frAt outer := fun b hb => by
    rw [lo.frs] at hb
    obtain ⟨env, he, hf⟩ := List.mem_filterMap.mp hb
    rcases List.mem_cons.mp he with z | z
    · rw [z, lo.frm] at hf; cases hf; exact .inl rfl
    · exact .inr (List.mem_filterMap.mpr ⟨env, z, hf⟩)
  have ho : ∀ b o, C.s0.heap.get? b = some o → b ∉ frAt outer → h.get? b = some o := fun b o e nm => hB b o (hideAll_get _ (R.ext.keep b o e) fun m => by
    rcases inF b m with z | z
    · rw [z, hL0] at e; cases e
    · exact nm z)
  have hf : ∀ b o, C.s0.heap.get? b = some o → b ∈ frAt outer → ∃ sl, h.get? b = some { o with slots := sl } := fun b o e m => by
    have m' : b ∈ frAt (C.env :: outer) := by
      obtain ⟨env, he, hff⟩ := List.mem_filterMap.mp m
      exact List.mem_filterMap.mpr ⟨env, .tail _ he, hff⟩
    obtain ⟨_, o', e', hd⟩ := hfr.mem m'
    rw [R.ext.keep b o e] at e'
    cases e'
    exact hsm b o (R.ext.keep b o e) hd
  obtain ⟨T, hT⟩ := kts_turn_at hfs ho hf
  let s0' : Shared := { C.s0 with heap := ktsHeap h (frAt outer) C.s0.heap }
  have hidS : Sub (hideAll C.s0.heap C.X0) (hideAll s0'.heap C.X0) := hid_sub fun b o nb e => ⟨T.other b o e fun m => nb (lo.hid b m), nb⟩
  have hidR : Sub (hideAll s.heap (C.X its own)) (hideAll h (C.X its own)) := hid_sub fun b o nb e => ⟨hB b o (hideAll_get _ e fun m => by
    rw [mem_X] at nb
    rcases inF b m with z | z
    · exact nb (.inr (.inl (z ▸ ok.loc)))
    · exact nb (.inl (lo.hid b z))), nb⟩
  refine ⟨s0', ?_, ?_, ⟨⟨_, C.s0.toks, rfl⟩, T.other⟩, fun e => by subst e; rfl⟩
  · exact {
      room := ok.room, kind := ok.kind, glob := ok.glob, bi := ok.bi, loc := ok.loc,
      x0 := fun x hx => by
        obtain ⟨o, e⟩ := ok.x0 x hx
        obtain ⟨sl, e'⟩ := T.up e
        exact ⟨_, e'⟩
      bs := fun b o e => T.other b o (ok.bs b o e) fun m => by
        have m' : b ∈ frAt (C.env :: outer) := by
          obtain ⟨env, he, hff⟩ := List.mem_filterMap.mp m
          exact List.mem_filterMap.mpr ⟨env, .tail _ he, hff⟩
        have := (hfr.mem m').1
        rw [e] at this; cases this
      nd := ok.nd,
      cin := fun q hq => by
        have hq' : q ∈ C.env.cells := hq
        rw [lo.cells] at hq'; cases hq'
      apart := ok.apart, off := ok.off, top := tp.mono _ _ hidS ok.top, lim := tp.lim _ (tp.mono _ _ hidS ok.top), seer := tp.seer _ (tp.mono _ _ hidS ok.top), frames := ok.frames, hd := ok.hd }
  · refine ⟨⟨?_, hT⟩, fun x hx => T.none_ x (R.fresh x hx), fun x hx => ?_, R.apart, R.off, ?_, ?_⟩
    · obtain ⟨h1, t1, e1⟩ := R.ext.same
      refine ⟨h, tk, ?_⟩
      rw [e1]
    · obtain ⟨o, e⟩ := R.alloc x hx
      by_cases m : x ∈ frAt C.frs
      · obtain ⟨_, o', e', hd⟩ := R.frames.mem m
        rw [e] at e'; cases e'
        obtain ⟨sl, q⟩ := hsm x o e hd
        exact ⟨_, q⟩
      · exact ⟨o, hB _ _ (hideAll_get _ e m)⟩
    · exact R.frames.of_keeps fun b o e hd => let ⟨sl, q⟩ := hsm b o e hd; ⟨_, q, rfl⟩
    · obtain ⟨μ, f, v⟩ := R.vars
      obtain ⟨m, hm, e⟩ := f.ns
      refine ⟨μ, ⟨⟨m, hsm.ns hm, e⟩, fun x c hx hc => by rw [show C.env.cells = [] from lo.cells] at hc; cases hc⟩, fun i x sl hi hsl => ?_⟩
      have q := v i x sl hi hsl
      cases sl with
      | no => trivial
      | val d => obtain ⟨z, e, r⟩ := q; exact ⟨z, e, r.keeps hidR⟩
      | own xs =>
        obtain ⟨b, ws, m, e, hm, g', r⟩ := q
        refine ⟨b, ws, m, e, hm, hB _ _ (hideAll_get _ g' fun hmm => ?_), r.keeps hidR⟩
        rcases inF b hmm with z | z
        · exact (R.off _ hm).1 (z ▸ ok.loc)
        · obtain ⟨o, e0⟩ := hfs b z
          rw [R.fresh b (List.mem_append_right _ (List.mem_append_right _ (List.mem_map.mpr ⟨_, hm, rfl⟩)))] at e0
          cases e0
      | bag l => obtain ⟨z, e, r⟩ := q; exact ⟨z, e, r.keeps hidR⟩
theorem try_raise (tp : TopP top) (ok : C.Ok n top) {outer : List Env} (lo : Lone C outer) {Ce : Addr} (ec : ErrC top Ce) (hk : C.env.kindOf "RunError" = some .globalImplicit) {i : Nat} {x y : Str} {x' : Expr} {P : St → Prop} {py pa np px pb pc hpos pos : Pos} {kc : Nat}
    (l : LX C i x) (hr : SRe prog w C x' Ce P) (hsw : swapsWith x' (some (.Name y py)) pa.line C.env = pure false) {its own σ s} {Q : Flow → Shared → Prop} {E : Value → Shared → Prop} (R : Rel C its own σ s) (hP : P σ)
    (h : ∀ s0' s', ({ C with s0 := s0' } : Cx).Ok n top → Turn (frAt outer) C.s0 s0' → (outer = [] → s0' = C.s0) → Rel { C with s0 := s0' } its own (σ.set i (.val (.bool true))) s' → Q .next s') :
    wpAny (model prog w) C.A (exec (.Try [.Assign [.Name y py] x' pa] [.ExceptHandler (some (.Name "RunError" np)) none [.Assign [.Name x px] (.Constant (.bool true) kc pc) pb] hpos] [] [] pos) C.env) Q E s := by
  refine wpAny_Try_except (wpAny_execs_cons (wpAny_Assign_Name (hr _ _ _ _ _ _ R hP fun e s' fl => ?_) hsw))
  obtain ⟨a0, hfl⟩ := fl.fly
  have hfrs : C.A.frames = some (C.env :: outer) := by rw [ok.frames, lo.frs]
  have hfl' := hfl
  rw [lo.frs] at hfl'
  refine wpAny_looks_onW hfrs lo.frm hfl' fun h₄ hheld₄ hsm₄ => ?_
  refine wpAny_landsW hheld₄ fun h₅ hheld hsm₅' => ?_
  have hsm₅ := (fl.slots.trans hsm₄).trans hsm₅'
  obtain ⟨h', tk', rfl⟩ := fl.same
  obtain ⟨s5, ok5, R5, _, _⟩ := turn_rel (tk := tk') tp ok lo R (h := h₅) (by rw [lo.frs]; exact hheld.1) hsm₅
  obtain ⟨mg, hg, O⟩ := ec _ ok5.top
  obtain ⟨tl, N, nm, q, bs, hdct, sn, sub, ab, col, dd, k0, k1, k2, k3, k5, mN, hC, hN, hni, T⟩ := O.obj
  obtain ⟨ob, hob, hobc⟩ := hheld.there
  refine wpAny_handleBy_cons (codeAny_handlers_test (name_glob (C := { C with s0 := s5 }) ok5 R5 hk (.inl ⟨mg, hg, O.bound⟩) ?_)) (by intro q; cases q)
  refine wpAny_excMatches_sub_self (R5.seen' _ _ hC) hob hobc (T.hasType PySem.F.excBase_Exception.hasBase) (codeAny_handlers_suite ?_)
  refine lands_againW hheld fun h₆ hfl₆ hsm₆ => ?_
  obtain ⟨s6, ok6, R6, t6, z6⟩ := turn_rel (tk := tk') tp ok lo R (h := h₆) (by rw [lo.frs]; exact hfl₆.1) (hsm₅.trans hsm₆)
  refine wpAny_execs_cons (wpAny_Assign_Name (wpAny_Constant_bool ?_))
  refine store_rel (C := { C with s0 := s6 }) (sl := .val (.bool true)) ok6 R6 l.n l.s ⟨_, rfl, Rd.bool true⟩ fun s'' R' _ => wpAny_execs_nil ?_
  exact h s6 s'' ok6 t6 z6 R'
end
end Mine
end
section
namespace Mine
open PySem PySem.W PySem.Calls PyProof.Rows
theorem Turn.of_ext {fs : List Addr} {s s' : Shared} (e : Ext s s') : Turn fs s s' := ⟨e.same, fun b o g _ => e.keep b o g⟩
theorem Turn.trans {fs : List Addr} {a b c : Shared} (x : Turn fs a b) (y : Turn fs b c) : Turn fs a c := by
  obtain ⟨⟨h, tk, rfl⟩, k⟩ := x
  obtain ⟨⟨h', tk', rfl⟩, k'⟩ := y
  exact ⟨⟨_, _, rfl⟩, fun b o e n => k' b o (k b o e n) n⟩
noncomputable def sTry (P : DB) (body : DS) (i : Nat) : DS := fun σ => match P σ with
  | some true => some (.next (σ.set i (.val (.bool true))))
  | some false => body σ
  | none => none
noncomputable def bArgs (P : List Slot → Bool) (das : List DA) : DB := fun σ => match aAll das σ with
  | some ds => some (P ds)
  | none => none
section
variable {prog : Program} {w : World} {C : Cx} {n : Nat} {top : Heap → Prop}
/-- a body that ends in a return -/
noncomputable def SSu (prog : Program) (w : World) (C : Cx) (outer : List Env) (sts : List Stmt) (D : DS) : Prop :=
  ∀ its own σ s d (Q : Flow → Shared → Prop) (E : Value → Shared → Prop), Rel C its own σ s → D σ = some (.ret d) → (∀ v s', Rd C.X0 s'.heap v d → Turn (frAt outer) C.s0 s' → Q (.ret v) s') → wpAny (model prog w) C.A (execs sts C.env) Q E s
theorem su_of {outer : List Env} {sts : List Stmt} {D : DS} (h : SSs prog w C sts D) : SSu prog w C outer sts D := by
  intro its own σ s d Q E R hd hq
  refine h _ _ _ _ _ _ _ R hd fun f s' own' ho hc => ?_
  cases f <;> first | exact ho.elim | skip
  exact hq _ _ ho.1 (.of_ext ho.2)
theorem su_cons {outer : List Env} {st : Stmt} {rest : List Stmt} {d : DS} {ds : List DS} (h1 : SS prog w C st d) (h2 : SSu prog w C outer rest (sSeq ds)) : SSu prog w C outer (st :: rest) (sSeq (d :: ds)) := by
  intro its own σ s r Q E R hd h
  rw [sSeq] at hd
  refine wpAny_execs_cons ?_
  split at hd
  · rename_i σ' e
    refine h1 _ _ _ _ _ _ _ R e fun f s' own' ho hc => ?_
    cases f <;> first | exact ho.elim | skip
    exact h2 _ _ _ _ _ _ _ ho hd h
  · rename_i o' hn e
    cases hd
    refine h1 _ _ _ _ _ _ _ R e fun f s' own' ho hc => ?_
    cases f <;> first | exact ho.elim | skip
    exact h _ _ ho.1 (.of_ext ho.2)
  · cases hd
theorem ss_try {h₀ : ExceptHandler} {hs : List ExceptHandler} {body : List Stmt} {pos : Pos} {D : DS} (h : SSs prog w C body D) : SS prog w C (.Try body (h₀ :: hs) [] [] pos) D := by
  intro its own σ s o Q E R hd hq
  refine wpAny_Try_except (h _ _ _ _ _ _ _ R hd fun f s' own' ho hc => ?_)
  cases f with
  | next => exact wpAny_execs_nil (hq _ _ _ ho hc)
  | brk => exact hq _ _ _ ho hc
  | cont => exact hq _ _ _ ho hc
  | ret v => exact hq _ _ _ ho hc
theorem su_try (tp : TopP top) (ok : C.Ok n top) {outer : List Env} (lo : Lone C outer) {Ce : Addr} (ec : ErrC top Ce) (hk : C.env.kindOf "RunError" = some .globalImplicit) {i j : Nat} {x y : Str} {x' : Expr} {P : List Slot → Bool} {das : List DA} {de : DE} {py pa np px pb pc hpos pos : Pos} {kc : Nat} {rest : List Stmt} {ds : List DS}
    (l : LX C i x) (ly : LX C j y) (hr : SRe prog w C x' Ce (fun σ => ∃ vs, aAll das σ = some vs ∧ P vs = true)) (he : SE prog w C x' de)
    (hrest : ∀ s0', ({ C with s0 := s0' } : Cx).Ok n top → SSu prog w { C with s0 := s0' } outer rest (sSeq ds))
    (hsw : swapsWith x' (some (.Name y py)) pa.line C.env = pure false := by rfl) :
    SSu prog w C outer (.Try [.Assign [.Name y py] x' pa] [.ExceptHandler (some (.Name "RunError" np)) none [.Assign [.Name x px] (.Constant (.bool true) kc pc) pb] hpos] [] [] pos :: rest) (sSeq (sTry (bArgs P das) (sSeq [sLet j de]) i :: ds)) := by
  intro its own σ s r Q E R hd h
  rw [sSeq] at hd
  cases hp : bArgs P das σ with
  | none => simp only [sTry, hp] at hd; cases hd
  | some b =>
    cases b with
    | true =>
      simp only [sTry, hp] at hd
      have hP : ∃ vs, aAll das σ = some vs ∧ P vs = true := by
        unfold bArgs at hp
        split at hp
        · rename_i vs e; exact ⟨vs, e, Option.some.inj hp⟩
        · cases hp
      refine wpAny_execs_cons (try_raise tp ok lo ec hk l hr hsw R hP fun s0' s' ok' t z R' => ?_)
      exact hrest s0' ok' _ _ _ _ _ _ _ R' hd fun v s'' q t' => h v s'' q (t.trans t')
    | false =>
      have hbr : SS prog w C (.Try [.Assign [.Name y py] x' pa] [.ExceptHandler (some (.Name "RunError" np)) none [.Assign [.Name x px] (.Constant (.bool true) kc pc) pb] hpos] [] [] pos) (sSeq [sLet j de]) := ss_try (sss_cons (s_let ok ly he hsw) sss_nil)
      refine su_cons (ds := ds) hbr (hrest C.s0 ok) _ _ _ _ _ _ _ R ?_ h
      rw [sSeq]
      simpa only [sTry, hp] using hd
/-- a function that may stir the slots of the frames outside -/
noncomputable def FnT (prog : Program) (w : World) (top : Heap → Prop) (base : Heap) (f : Addr) (k : Nat) (D : List Slot → Option PyData) : Prop :=
  ∀ (A : Around) (X : List Addr) (s : Shared) (frs : List Env) (args : List Value) (ds : List Slot) (r : PyData) (Q : Value → Shared → Prop) (E : Value → Shared → Prop), Room A k → A.frames = some frs → s.heap.FunFrames base frs → Sub base s.heap →
    (∀ b ∈ frAt frs, b ∈ X) → (∀ p ∈ X, ∃ o, s.heap.get? p = some o) → top (hideAll s.heap X) → ArgsAre X s.heap args ds → D ds = some r → (∀ v s', Turn (frAt frs) s s' → Rd X s'.heap v r → Q v s') → wpAny (model prog w) A (call (.ref f) args) Q E s
theorem fn_turn (tp : TopP top) {base : Heap} {f : Addr} {fd : FuncData} {body : List Stmt} {ps rest : List Str} {k : Nat} {D : DS} (hf : ∀ g, top g → ∃ o, g.get? f = some o ∧ o.data = .func fd ∧ g.CodeRec fd.code fd.qualname) (d : FnD fd body ps rest)
    (hS : ∀ (C : Cx) outer, C.Ok k top → C.names = ps ++ rest → C.env.scope = fd.scope → (∃ L, C.env.locals = L ∧ C.env.cells = cellsFrom (L + 1) fd.scope.names [] ∧ C.priv = L :: C.env.cells.map (·.2)) → C.base = base →
      C.frs = C.env :: outer → C.env.frame = some C.env.locals → (∀ b ∈ frAt outer, b ∈ C.X0) → SSu prog w C outer body D) :
    FnT prog w top base f (k + 1) (runFn ps.length rest.length D) := by
  intro A X s frs args ds r Q E rm hfr hff hbs hX al ht hargs hD h
  obtain ⟨hln, hD'⟩ := runFn_some hD
  refine fn_core tp hf d rm hfr hff hbs al ht hargs hln fun C ok cd s₁ R => ?_
  obtain ⟨L, h1, h2, _⟩ := cd.loc
  refine hS C frs ok cd.names cd.scope ⟨L, by rw [h1]; rfl, by rw [h1]; rfl, h2⟩ cd.base cd.frs (by rw [h1]; rfl) (by rw [cd.x0]; exact hX) _ _ _ _ _ _ _ R hD' fun v s' q t => ?_
  rw [cd.x0] at q
  rw [cd.s0] at t
  exact ⟨_, rfl, h _ _ t q⟩
/-- «if not f(..): return False», «return True» at a body's end, where f stirs this frame's slots -/
theorem su_last (tp : TopP top) (ok : C.Ok n top) {outer : List Env} (hfrs : C.frs = C.env :: outer) (hfrm : C.env.frame = some C.env.locals) (hid : ∀ b ∈ frAt outer, b ∈ C.X0) {x : Str} {e : Expr} {es : List Expr} {p pc pn pif pr1 pr2 pk1 pk2 : Pos} {k1 k2 : Nat} {das : List DA} {f : Addr} {D : List Slot → Option PyData} {k : Nat} (g : Glb top x (.ref f)) (fo : FnObj top f) (F : FnT prog w top C.base f k D) (hkn : k ≤ n)
    (ha : SAs prog w C (e :: es) (aAll das)) (hk : C.env.kindOf x = some .globalImplicit) (hd : (x == ("__debug__" : Str)) = false := by decide)
    (hx : starEach (e :: es) C.env = (false, eval e C.env) :: starEach es C.env := by rfl) :
    SSu prog w C outer [.If (.UnaryOp .Not (.Call (.Name x p) (e :: es) [] pc) pn) [.Return (some (.Constant (.bool false) k1 pk1)) pr1] [] pif, .Return (some (.Constant (.bool true) k2 pk2)) pr2]
      (sSeq [sIf (bNot (bOf (dCall D das))) (sSeq [sRet (dLit (.bool false))]) (sSeq []), sRet (dLit (.bool true))]) := by
  intro its own σ s r Q E R hr h
  have key : ∃ b ds, aAll das σ = some ds ∧ D ds = some (.bool b) ∧ r = .bool b := by
    simp only [sSeq, sIf, bNot, bOf, b1, sRet, dLit, Option.map] at hr
    cases hc : dCall D das σ with
    | none => simp only [hc] at hr; cases hr
    | some v =>
      obtain ⟨ds, h1, h2⟩ := dCall_some hc
      simp only [hc] at hr
      unfold vTruth at hr
      cases v <;> simp only at hr <;> try cases hr
      rename_i b
      refine ⟨b, ds, h1, h2, ?_⟩
      cases b
      · simp at hr; exact hr.symm
      · simp at hr; exact hr.symm
  obtain ⟨b, ds, hds, hD, rfl⟩ := key
  obtain ⟨o, fd, go, hdat⟩ := fo _ ok.top
  refine wpAny_execs_cons (wpAny_If ?_)
  refine wpAny_isTrue_Not (wpAny_isTrue_value (wpAny_Call_NameR (name_glob ok R hk (g _ ok.top) ?_ hd)))
  refine callWith_def (o := o) (fd := fd) hdat (ha _ _ _ _ _ _ _ _ R hds fun vs s₁ e₁ q => ?_) hx
  have R₁ := R.grow e₁
  refine ⟨R₁.seen' _ _ go, ?_⟩
  refine F C.A (C.X its own) s₁ C.frs vs ds (.bool b) _ _ ⟨ok.room.handled, by have := ok.room.depth; omega, by have := ok.room.units; omega⟩ ok.frames R₁.frames (fun b o e => R₁.ext.keep _ _ (ok.bs b o e)) ?_ R₁.alloc (tp.mono _ _ R₁.seen ok.top) q hD fun v s' t q' => ?_
  · intro b' hb
    rw [hfrs] at hb
    obtain ⟨env, he, hf⟩ := List.mem_filterMap.mp hb
    rcases List.mem_cons.mp he with z | z
    · rw [z, hfrm] at hf; cases hf; exact mem_X.mpr (.inr (.inl ok.loc))
    · exact mem_X.mpr (.inl (hid _ (List.mem_filterMap.mpr ⟨env, z, hf⟩)))
  · have hv := q'.ofBool
    subst hv
    have hT : Turn (frAt outer) C.s0 s' := by
      obtain ⟨⟨h1, tk1, e1⟩, ot⟩ := t
      obtain ⟨h2, tk2, e2⟩ := R₁.ext.same
      refine ⟨⟨h1, tk1, by rw [e1, e2]⟩, fun b' o' e' nb => ot b' o' (R₁.ext.keep _ _ e') fun m => ?_⟩
      rw [hfrs] at m
      obtain ⟨env, he, hf⟩ := List.mem_filterMap.mp m
      rcases List.mem_cons.mp he with z | z
      · rw [z, hfrm] at hf; cases hf
        have := R₁.fresh _ (List.mem_append_left _ ok.loc)
        rw [e'] at this; cases this
      · exact nb (List.mem_filterMap.mpr ⟨env, z, hf⟩)
    refine wpAny_truthy_bool ?_
    cases b with
    | true =>
      simp only [Bool.not_true, Bool.false_eq_true, if_false]
      exact wpAny_execs_nil (wpAny_execs_cons (wpAny_Return_some (wpAny_Constant_bool (h _ _ (Rd.bool true) hT))))
    | false =>
      simp only [Bool.not_false, if_true]
      exact wpAny_execs_cons (wpAny_Return_some (wpAny_Constant_bool (h _ _ (Rd.bool false) hT)))
end
end Mine
end
section
namespace Mine
open PySem PySem.W PySem.Calls PyProof.Rows
noncomputable def strsOf : List Value → Option (List Str)
  | [] => some []
  | .str x _ :: r => (strsOf r).map (x :: ·)
  | _ => none
theorem reads_strs {h : Heap} : ∀ {vs : List Value} {xs : List Str}, strsOf vs = some xs → ∃ as, ReadsAll h vs (xs.map .str) as
  | [], xs, e => by cases e; exact ⟨_, .nil⟩
  | v :: r, xs, e => by
    unfold strsOf at e
    split at e
    · rename_i h0; cases h0
    · rename_i x t r' h0
      cases h0
      obtain ⟨ys, hy, rfl⟩ := Option.map_eq_some_iff.mp e
      obtain ⟨as, q⟩ := reads_strs (h := h) hy
      exact ⟨_, .cons (.str x t) q⟩
    · cases e
theorem const_of {K : KB} {x : Str} {a : Addr} {ws : Array Value} {n : Nat} {sl : Array (Option Value)} {od : Option Addr} {xs : List Str} (hn : nsIn K.frag mainGlobals x = some (some (.ref a))) (ho : K.frag.lookup a = some ⟨.type "tuple", od, .seq ws n, sl⟩) (hs : strsOf ws.toList = some xs) :
    Const (KTop K) x (.tuple (xs.map .str)) := fun g t => by
  obtain ⟨mg, mb, a', b, c⟩ := t.names
  obtain ⟨as, q⟩ := reads_strs (h := g) hs
  exact ⟨_, _, .inl ⟨mg, a', mg_of t.frag a' hn⟩, .tuple (t.frag _ _ ho) rfl rfl q⟩
noncomputable def ents : List DictEntry → Option (List (Str × Value))
  | [] => some []
  | ⟨_, .str x _, v⟩ :: r => (ents r).map ((x, v) :: ·)
  | _ => none
theorem ents_ok {prog : Program} {w : World} : ∀ {es : List DictEntry} {kvs : List (Str × Value)}, ents es = some kvs → es.map (·.hash) = kvs.map (fun p => PyData.keyHash w.params p.1) →
    (∀ e ∈ es, ∃ k, (strKind prog w).is k e.key = true ∧ e.hash = (strKind prog w).hash k) ∧ Pairs (strKind prog w) es kvs
  | [], kvs, e, hh => by cases e; exact ⟨(fun _ h => nomatch h), .nil⟩
  | en :: r, kvs, e, hh => by
    unfold ents at e
    split at e
    · rename_i h0; cases h0
    · rename_i hsh x t v r' h0
      cases h0
      obtain ⟨ys, hy, rfl⟩ := Option.map_eq_some_iff.mp e
      simp only [List.map_cons, List.cons.injEq] at hh
      obtain ⟨h1, h2⟩ := ents_ok (prog := prog) (w := w) hy hh.2
      refine ⟨fun e he => ?_, .cons (strKind_is prog w x t) rfl h2⟩
      rcases List.mem_cons.mp he with z | z
      · subst z; exact ⟨x, strKind_is prog w x t, hh.1⟩
      · exact h1 e z
    · cases e
theorem strsOf_len : ∀ {vs : List Value} {xs : List Str}, strsOf vs = some xs → vs.length = xs.length
  | [], xs, e => by cases e; rfl
  | v :: r, xs, e => by
    unfold strsOf at e
    split at e
    · rename_i h0; cases h0
    · rename_i x t r' h0
      cases h0
      obtain ⟨ys, hy, rfl⟩ := Option.map_eq_some_iff.mp e
      simp [strsOf_len hy]
    · cases e
theorem dconst_of {prog : Program} {w : World} {K : KB} {x : Str} {a : Addr} {es : Array DictEntry} {ep : Nat} {kvs : List (Str × Value)} {xs : List Str} (hn : nsIn K.frag mainGlobals x = some (some (.ref a))) (ho : K.frag.lookup a = some { cls := .type "dict", data := .dict es ep }) (hs : (a == sysModules) = false)
    (he : ents es.toList = some kvs) (hh : es.toList.map (·.hash) = kvs.map (fun p => PyData.keyHash w.params p.1)) (nd : (kvs.map (·.1)).Nodup) (hv : strsOf (kvs.map (·.2)) = some xs) :
    DConst prog w (KTop K) x ((kvs.map (·.1)).zip (xs.map .str)) := fun g t => by
  obtain ⟨mg, mb, a', b, c⟩ := t.names
  obtain ⟨as, q⟩ := reads_strs (h := g) hv
  obtain ⟨h1, h2⟩ := ents_ok (prog := prog) he hh
  have hl := strsOf_len hv
  have zk := zip_keys (ks := kvs.map (·.1)) (xs := xs.map PyData.str) (by simpa using hl)
  have zz : (kvs.map (·.1)).zip (kvs.map (·.2)) = kvs := by
    clear hv hl zk q h1 h2 nd hh he hn
    induction kvs with
    | nil => rfl
    | cons p r ih => simp [ih]
  refine ⟨a, kvs.map (·.2), as, .inl ⟨mg, a', mg_of t.frag a' hn⟩, hs, ?_, by rw [zk.2]; exact q⟩
  rw [zk.1, zz]
  exact ⟨_, es, ep, t.frag _ _ ho, ⟨rfl, rfl, rfl⟩, rfl, fun e he => h1 e (by simpa using he), h2, nd⟩
noncomputable def adr (K : Frag) (x : Str) : Addr := match nsIn K mainGlobals x with
  | some (some (.ref a)) => a
  | _ => 0
/-- a function of the program, as the head gives it -/
structure FnHere (P : Program) (K : KB) (x : Str) (i : Nat) where
  a : Addr
  f : FuncData
  F : FunK K x a f
  e : Shape P f x i
noncomputable def RecIn (p P : Program) (x : Str) (i : Nat) : Prop := ∃ d ∈ recsOf p, d.name = x ∧ d.params = fnArgs P i ∧ d.body = fnBody P i ∧ d.scope = fnScope P i
theorem fnHere_ex {p P : Program} {loose : List Str} {mean : ExcName → Option Value} {mg mb : Str → Option Value} {h : Heap} (T : Top p loose mean mg mb h) (fr : Frag) {x : Str} {i : Nat} (hd : RecIn p P x i) : ∃ A : FnHere P ⟨fr, h⟩ x i, mg x = some (.ref A.a) := by
  obtain ⟨d, hm, rfl, e1, e2, e3⟩ := hd
  obtain ⟨a, o, pm, code, doc, h1, h2, h3, h4⟩ := T.fn d hm
  rw [e1, e2, e3] at h3
  exact ⟨⟨a, _, ⟨⟨mg, T.g, h1⟩, ⟨o, h2, h3⟩, h4⟩, ⟨_, _, _, _, _, _, _, rfl⟩⟩, h1⟩
noncomputable def fnHere {p P : Program} {loose : List Str} {mean : ExcName → Option Value} {mg mb : Str → Option Value} {h : Heap} (T : Top p loose mean mg mb h) (fr : Frag) {x : Str} {i : Nat} (hd : RecIn p P x i) : FnHere P ⟨fr, h⟩ x i := (fnHere_ex T fr hd).choose
noncomputable def fnName (P : Program) (i : Nat) : Str := match P.main.body[i]? with
  | some (.FunctionDef n ..) => n
  | _ => ""
theorem recIn_of {p P : Program} {is : List Nat} (h : (recsOf p).map (fun d => (d.name, d.params, d.body, d.scope)) = is.map (fun i => (fnName P i, fnArgs P i, fnBody P i, fnScope P i))) {i : Nat} (hi : i ∈ is) : RecIn p P (fnName P i) i := by
  have : (fnName P i, fnArgs P i, fnBody P i, fnScope P i) ∈ (recsOf p).map (fun d => (d.name, d.params, d.body, d.scope)) := by rw [h]; exact List.mem_map.mpr ⟨i, hi, rfl⟩
  obtain ⟨d, hd, e⟩ := List.mem_map.mp this
  injection e with e1 e
  injection e with e2 e
  injection e with e3 e4
  exact ⟨d, hd, e1, e2, e3, e4⟩
end Mine
end
section
namespace Mine
open PySem
noncomputable def raiseP (ds : List Slot) : Bool := match ds with
  | [.val (.str op), .val (.int _), .val (.int b)] => (decide (op = "//") || decide (op = "%")) && decide (b = 0)
  | _ => false
theorem raiseP_inv {ds : List Slot} (h : raiseP ds = true) : ∃ (op : Str) (a : Int), (op = "//" ∨ op = "%") ∧ ds = [.val (.str op), .val (.int a), .val (.int 0)] := by
  unfold raiseP at h
  split at h
  · rename_i op a b
    simp only [Bool.and_eq_true, Bool.or_eq_true, decide_eq_true_eq] at h
    exact ⟨op, a, h.1, by rw [h.2]⟩
  · cases h
noncomputable def D_apply_binary : DS := (sSeq [sIf (b2 vEq (dName 0) (dLit (.str "+"))) (sSeq [sRet (d2 vAdd (dName 1) (dName 2))]) (sSeq []),
    sIf (b2 vEq (dName 0) (dLit (.str "-"))) (sSeq [sRet (d2 vSub (dName 1) (dName 2))]) (sSeq []),
    sIf (b2 vEq (dName 0) (dLit (.str "*"))) (sSeq [sRet (d2 vMul (dName 1) (dName 2))]) (sSeq []),
    sIf (b2 vIn (dName 0) (dTup [(dLit (.str "//")), (dLit (.str "%"))])) (sSeq [sIf (b2 vEq (dName 2) (dLit (.int 0))) (sSeq [sNo]) (sSeq []),
        sIf (b2 vEq (dName 0) (dLit (.str "//"))) (sSeq [sRet (d2 vDiv (dName 1) (dName 2))]) (sSeq []),
        sRet (d2 vMod (dName 1) (dName 2))]) (sSeq []),
    sIf (b2 vEq (dName 0) (dLit (.str "<"))) (sSeq [sLet 3 (bVal (b2 vLt (dName 1) (dName 2)))]) (sSeq [sIf (b2 vEq (dName 0) (dLit (.str "<="))) (sSeq [sLet 3 (bVal (b2 vLe (dName 1) (dName 2)))]) (sSeq [sIf (b2 vEq (dName 0) (dLit (.str "=="))) (sSeq [sLet 3 (bVal (b2 vEq (dName 1) (dName 2)))]) (sSeq [sIf (b2 vEq (dName 0) (dLit (.str "!="))) (sSeq [sLet 3 (bVal (b2 vNe (dName 1) (dName 2)))]) (sSeq [sIf (b2 vEq (dName 0) (dLit (.str ">"))) (sSeq [sLet 3 (bVal (b2 vGt (dName 1) (dName 2)))]) (sSeq [sLet 3 (bVal (b2 vGe (dName 1) (dName 2)))])])])])]),
    sIf (bOf (dName 3)) (sSeq [sRet (dLit (.int 1))]) (sSeq []),
    sRet (dLit (.int 0))])
noncomputable def F_apply_binary : List Slot → Option PyData := runFn 3 1 D_apply_binary
noncomputable def D_jump_targets : DS := (sSeq [sOwn 2 (lComp 2 [] (unpackTo [0, 1]) (items (dName 0)) (b2 vIn (dName 0) (dTup [(dLit (.str "JUMP")), (dLit (.str "JZ"))])) (dName 1)),
    sExtend 2 (dComp (lComp 1 [] (toOne 0) (items (dName 1)) bTrue (d2 vItem (dName 0) (dLit (.int 3))))),
    sOwn 3 (fun _ => some []),
    sFreeze 2,
    sFor (toOne 4) (items (d1 vSorted (dName 2))) (sSeq [sIf (bOr [(b2 vEq (dOwnLen 3) (dLit (.int 0))), (b2 vNe (dOwnItem 3 (d1 vNeg (dLit (.int 1)))) (dName 4))]) (sSeq [sAppend 3 (dName 4)]) (sSeq [])]),
    sFreeze 3,
    sRet (dName 3)])
noncomputable def F_jump_targets : List Slot → Option PyData := runFn 2 3 D_jump_targets
noncomputable def D_fold_once : DS := (sSeq [sLet 2 (dCall F_jump_targets [(aVal (dName 0)), (aVal (dName 1))]),
    sOwn 3 (listOfD (dName 0)),
    sFor (toOne 4) (rangeTo (d2 vSub (dOwnLen 3) (dLit (.int 1)))) (sSeq [sUnpack [5, 6] (dOwnItem 3 (dName 4)),
        sIf (bOr [(b2 vNe (dName 5) (dLit (.str "PUSH"))), (b2 vIn (d2 vAdd (dName 4) (dLit (.int 1))) (dName 2))]) (sSeq [sCont]) (sSeq []),
        sUnpack [7, 8] (dOwnItem 3 (d2 vAdd (dName 4) (dLit (.int 1)))),
        sIf (b2 vEq (dName 7) (dLit (.str "NEG"))) (sSeq [sSetItem 3 (dName 4) (dTup [(dLit (.str "NOP")), (dLit (.int 0))]),
            sSetItem 3 (d2 vAdd (dName 4) (dLit (.int 1))) (dTup [(dLit (.str "PUSH")), (d1 vNeg (dName 6))])]) (sSeq [sIf (b2 vEq (dName 7) (dLit (.str "NOT"))) (sSeq [sSetItem 3 (dName 4) (dTup [(dLit (.str "NOP")), (dLit (.int 0))]),
                sSetItem 3 (d2 vAdd (dName 4) (dLit (.int 1))) (dTup [(dLit (.str "PUSH")), (dIte (b2 vEq (dName 6) (dLit (.int 0))) (dLit (.int 1)) (dLit (.int 0)))])]) (sSeq [sIf (bAnd [(b2 vEq (dName 7) (dLit (.str "PUSH"))), (b2 vLt (d2 vAdd (dName 4) (dLit (.int 2))) (dOwnLen 3)), (b2 vNotIn (d2 vAdd (dName 4) (dLit (.int 2))) (dName 2))]) (sSeq [sLet 9 (d2 vItem (dOwnItem 3 (d2 vAdd (dName 4) (dLit (.int 2)))) (dLit (.int 0))),
                    sIf (bAnd [(bHas (dName 9) (dKvs signOf)), (bNot (bAnd [(b2 vIn (dName 9) (dTup [(dLit (.str "DIV")), (dLit (.str "MOD"))])), (b2 vEq (dName 8) (dLit (.int 0)))]))]) (sSeq [sSetItem 3 (dName 4) (dTup [(dLit (.str "NOP")), (dLit (.int 0))]),
                        sSetItem 3 (d2 vAdd (dName 4) (dLit (.int 1))) (dTup [(dLit (.str "NOP")), (dLit (.int 0))]),
                        sSetItem 3 (d2 vAdd (dName 4) (dLit (.int 2))) (dTup [(dLit (.str "PUSH")), (dCall F_apply_binary [(aVal (dTab (dKvs signOf) (dName 9))), (aVal (dName 6)), (aVal (dName 8))])])]) (sSeq [])]) (sSeq [])])])]),
    sFreeze 3,
    sRet (dName 3)])
noncomputable def F_fold_once : List Slot → Option PyData := runFn 2 8 D_fold_once
noncomputable def D_strip_nops : DS := (sSeq [sOwn 2 (fun _ => some []),
    sLet 3 (dLit (.int 0)),
    sFor (unpackTo [4, 5]) (items (dName 0)) (sSeq [sAppend 2 (dName 3),
        sIf (b2 vNe (dName 4) (dLit (.str "NOP"))) (sSeq [sLet 3 (d2 vAdd (dName 3) (dLit (.int 1)))]) (sSeq [])]),
    sAppend 2 (dName 3),
    sFreeze 2,
    sOwn 6 (fun _ => some []),
    sFor (unpackTo [4, 5]) (items (dName 0)) (sSeq [sIf (bAnd [(b2 vIn (dName 4) (dTup [(dLit (.str "JUMP")), (dLit (.str "JZ"))])), (bChain (dLit (.int 0)) (dName 5) (d1 vLen (dName 0)))]) (sSeq [sAppend 6 (dTup [(dName 4), (d2 vItem (dName 2) (dName 5))])]) (sSeq [sIf (b2 vNe (dName 4) (dLit (.str "NOP"))) (sSeq [sAppend 6 (dTup [(dName 4), (dName 5)])]) (sSeq [])])]),
    sFreeze 6,
    sRet (dTup [(dName 6), (dComp (lComp 4 [2] (unpackTo [0, 1, 2, 3]) (items (dName 1)) bTrue (dTup [(dName 0), (dName 1), (dName 2), (d2 vItem (dName 4) (dName 3))])))])])
noncomputable def F_strip_nops : List Slot → Option PyData := runFn 2 5 D_strip_nops
noncomputable def D_optimize : DS := (sSeq [sFor (toOne 2) (rangeTo (d2 vAdd (d1 vLen (dName 0)) (dLit (.int 1)))) (sSeq [sUnpack [3, 4] (dCall F_strip_nops [(aVal (dCall F_fold_once [(aVal (dName 0)), (aVal (dName 1))])), (aVal (dName 1))]),
        sIf (b2 vEq (dName 3) (dName 0)) (sSeq [sBrk]) (sSeq []),
        sLet 0 (dName 3),
        sLet 1 (dName 4)]),
    sRet (dTup [(d1 vListOf (dName 0)), (d1 vListOf (dName 1))])])
noncomputable def F_optimize : List Slot → Option PyData := runFn 2 3 D_optimize
end Mine
end
section
set_option maxRecDepth 100000
set_option maxHeartbeats 1000000
namespace Mine
open PySem PySem.W PySem.Calls PyProof.Rows
abbrev P7 : Program := PySem.Challenge.pw_sx_vrungs_7
noncomputable def D_law_holds : DD := (dPairs ["LT", "LE", "EQ", "NE", "GT", "GE"] [(dTup [(dLit (.int 1)), (dLit (.int 0)), (dLit (.int 0))]), (dTup [(dLit (.int 1)), (dLit (.int 1)), (dLit (.int 0))]), (dTup [(dLit (.int 0)), (dLit (.int 1)), (dLit (.int 0))]), (dTup [(dLit (.int 1)), (dLit (.int 0)), (dLit (.int 1))]), (dTup [(dLit (.int 0)), (dLit (.int 0)), (dLit (.int 1))]), (dTup [(dLit (.int 0)), (dLit (.int 1)), (dLit (.int 1))])])
noncomputable def D_law_chunk : DS := (sSeq [sLet 3 (d2 vItem (dLit opsD) (d2 vMod (d2 vAdd (dName 1) (d2 vMul (dLit (.int 3)) (dName 2))) (dLit (.int 11)))),
    sLet 4 (d2 vSub (d2 vMod (dName 1) (dLit (.int 7))) (dLit (.int 3))),
    sLet 5 (d2 vSub (d2 vMod (dName 2) (dLit (.int 7))) (dLit (.int 3))),
    sLet 6 (dLst [(dLst [(dTup [(dLit (.str "PUSH")), (dName 4)]), (dTup [(dLit (.str "PUSH")), (dName 5)]), (dTup [(dName 3), (dLit (.int 0))])]), (dLst [(dTup [(dLit (.str "PUSH")), (dName 5)]), (dTup [(dLit (.str "PUSH")), (dName 4)]), (dTup [(dName 3), (dLit (.int 0))])]), (dLst [(dTup [(dLit (.str "PUSH")), (dName 4)]), (dTup [(dLit (.str "NEG")), (dLit (.int 0))])]), (dLst [(dTup [(dLit (.str "PUSH")), (dName 4)]), (dTup [(dLit (.str "NOT")), (dLit (.int 0))])]), (dLst [(dTup [(dName 3), (dLit (.int 0))])]), (dLst [(dTup [(dLit (.str "PUSH")), (dName 4)]), (dTup [(dLit (.str "NOP")), (dName 2)]), (dTup [(dLit (.str "PUSH")), (dName 5)])]), (dLst [(dTup [(dLit (.str "NOP")), (dLit (.int 0))])]), (dLst [(dTup [(dLit (.str "JUMP")), (dName 1)])]), (dLst [(dTup [(dLit (.str "JZ")), (dName 1)])]), (dLst [(dTup [(dLit (.str "PUSH")), (dName 4)])]), (dLst [(dTup [(dLit (.str "LOAD")), (dName 2)])]), (dLst [(dTup [(dLit (.str "PUSH")), (dName 1)])])]),
    sRet (d2 vItem (dName 6) (dName 0))])
noncomputable def F_law_chunk : List Slot → Option PyData := runFn 3 4 D_law_chunk
noncomputable def D_law_code : DS := (sSeq [sLet 1 (d1 vLen (dName 0)),
    sRet (dComp (lComp 2 [1] (unpackTo [0, 1]) (items (dName 0)) bTrue (dIte (b2 vIn (dName 0) (dTup [(dLit (.str "JUMP")), (dLit (.str "JZ"))])) (dTup [(dName 0), (d2 vSub (d2 vMod (dName 1) (d2 vAdd (dName 2) (dLit (.int 3)))) (dLit (.int 1)))]) (dTup [(dName 0), (dName 1)]))))])
noncomputable def F_law_code : List Slot → Option PyData := runFn 1 1 D_law_code
noncomputable def D_law_table : DS := (sSeq [sLet 4 (dLst [(dTup [(dLit (.str "f")), (dName 1), (dName 2), (d2 vMod (dName 1) (d2 vAdd (dName 3) (dLit (.int 1))))]), (dTup [(dLit (.str "main")), (dLit (.int 0)), (dName 2), (d2 vMod (dName 2) (d2 vAdd (dName 3) (dLit (.int 1))))])]),
    sRet (d2 vSliceTo (dName 4) (dName 0))])
noncomputable def F_law_table : List Slot → Option PyData := runFn 4 1 D_law_table
noncomputable def D_law_no_value : DS := (sSeq [sIf (b2 vIn (dName 0) (dTup [(dLit (.str "DIV")), (dLit (.str "MOD"))])) (sSeq [sRet (bVal (b2 vEq (dName 1) (dLit (.int 0))))]) (sSeq []),
    sRet (dLit (.bool false))])
noncomputable def F_law_no_value : List Slot → Option PyData := runFn 2 0 D_law_no_value
noncomputable def D_law_value : DS := (sSeq [sIf (b2 vEq (dName 0) (dLit (.str "ADD"))) (sSeq [sRet (d2 vAdd (dName 1) (dName 2))]) (sSeq []),
    sIf (b2 vEq (dName 0) (dLit (.str "SUB"))) (sSeq [sRet (d2 vSub (dName 1) (dName 2))]) (sSeq []),
    sIf (b2 vEq (dName 0) (dLit (.str "MUL"))) (sSeq [sRet (d2 vMul (dName 1) (dName 2))]) (sSeq []),
    sIf (b2 vEq (dName 0) (dLit (.str "DIV"))) (sSeq [sRet (d2 vDiv (dName 1) (dName 2))]) (sSeq []),
    sIf (b2 vEq (dName 0) (dLit (.str "MOD"))) (sSeq [sRet (d2 vMod (dName 1) (dName 2))]) (sSeq []),
    sLet 3 (dLit (.int 0)),
    sIf (b2 vEq (dName 1) (dName 2)) (sSeq [sLet 3 (dLit (.int 1))]) (sSeq [sIf (b2 vGt (dName 1) (dName 2)) (sSeq [sLet 3 (dLit (.int 2))]) (sSeq [])]),
    sRet (d2 vItem (dTab (dKvs kvs_law_holds) (dName 0)) (dName 3))])
noncomputable def F_law_value : List Slot → Option PyData := runFn 3 1 D_law_value
noncomputable def D_law_short : DS := (sSeq [sLet 2 (dLst []),
    sOwn 3 (fun _ => some []),
    sLet 4 (dLit (.bool false)),
    sFor (toOne 5) (rangeTo (d1 vLen (dName 0))) (sSeq [sUnpack [6, 7] (d2 vItem (dName 0) (dName 5)),
        sAppend 3 (d1 vLen (dName 2)),
        sIf (b2 vIn (dName 5) (dName 1)) (sSeq [sLet 4 (dLit (.bool true))]) (sSeq []),
        sIf (b2 vEq (dName 6) (dLit (.str "NOP"))) (sSeq [sCont]) (sSeq []),
        sUnpack [8, 9] (d2 vSliceFrom (d2 vAdd (dLst [(dTup [(dLit (.str "")), (dLit (.int 0)), (dLit (.bool false))]), (dTup [(dLit (.str "")), (dLit (.int 0)), (dLit (.bool false))])]) (dName 2)) (d1 vNeg (dLit (.int 2)))),
        sIf (bOr [(b2 vNe (d2 vItem (dName 9) (dLit (.int 0))) (dLit (.str "PUSH"))), (bOf (dName 4))]) (sSeq [sLet 2 (d2 vAdd (dName 2) (dLst [(dTup [(dName 6), (dName 7), (dName 4)])]))]) (sSeq [sIf (b2 vEq (dName 6) (dLit (.str "NEG"))) (sSeq [sLet 2 (d2 vAdd (d2 vSliceTo (dName 2) (d1 vNeg (dLit (.int 1)))) (dLst [(dTup [(dLit (.str "PUSH")), (d1 vNeg (d2 vItem (dName 9) (dLit (.int 1)))), (d2 vItem (dName 9) (dLit (.int 2)))])]))]) (sSeq [sIf (b2 vEq (dName 6) (dLit (.str "NOT"))) (sSeq [sLet 10 (dLit (.int 0)),
                    sIf (b2 vEq (d2 vItem (dName 9) (dLit (.int 1))) (dLit (.int 0))) (sSeq [sLet 10 (dLit (.int 1))]) (sSeq []),
                    sLet 2 (d2 vAdd (d2 vSliceTo (dName 2) (d1 vNeg (dLit (.int 1)))) (dLst [(dTup [(dLit (.str "PUSH")), (dName 10), (d2 vItem (dName 9) (dLit (.int 2)))])]))]) (sSeq [sIf (bAnd [(b2 vIn (dName 6) (dLit opsD)), (b2 vEq (d2 vItem (dName 8) (dLit (.int 0))) (dLit (.str "PUSH"))), (bNot (bOf (d2 vItem (dName 9) (dLit (.int 2))))), (bNot (bOf (dCall F_law_no_value [(aVal (dName 6)), (aVal (d2 vItem (dName 9) (dLit (.int 1))))])))]) (sSeq [sLet 2 (d2 vAdd (d2 vSliceTo (dName 2) (d1 vNeg (dLit (.int 2)))) (dLst [(dTup [(dLit (.str "PUSH")), (dCall F_law_value [(aVal (dName 6)), (aVal (d2 vItem (dName 8) (dLit (.int 1)))), (aVal (d2 vItem (dName 9) (dLit (.int 1))))]), (d2 vItem (dName 8) (dLit (.int 2)))])]))]) (sSeq [sLet 2 (d2 vAdd (dName 2) (dLst [(dTup [(dName 6), (dName 7), (dLit (.bool false))])]))])])])]),
        sLet 4 (dLit (.bool false))]),
    sAppend 3 (d1 vLen (dName 2)),
    sFreeze 3,
    sOwn 11 (fun _ => some []),
    sFor (unpackTo [6, 7, 12]) (items (dName 2)) (sSeq [sIf (bAnd [(b2 vIn (dName 6) (dTup [(dLit (.str "JUMP")), (dLit (.str "JZ"))])), (bChain (dLit (.int 0)) (dName 7) (d1 vLen (dName 0)))]) (sSeq [sAppend 11 (dTup [(dName 6), (d2 vItem (dName 3) (dName 7))])]) (sSeq [sAppend 11 (dTup [(dName 6), (dName 7)])])]),
    sFreeze 11,
    sRet (dTup [(dName 11), (dName 3)])])
noncomputable def F_law_short : List Slot → Option PyData := runFn 2 11 D_law_short
noncomputable def D_law_operator_right : DS := (sSeq [sLet 3 (dLit .none),
    sLet 4 (dLit (.bool false)),
    sTry (bArgs raiseP [(aVal (d2 vItem (dLit signsD) (dName 0))), (aVal (dName 1)), (aVal (dName 2))]) (sSeq [sLet 3 (dCall F_apply_binary [(aVal (d2 vItem (dLit signsD) (dName 0))), (aVal (dName 1)), (aVal (dName 2))])]) 4,
    sIf (bOf (dCall F_law_no_value [(aVal (d2 vItem (dLit opsD) (dName 0))), (aVal (dName 2))])) (sSeq [sRet (dName 4)]) (sSeq []),
    sIf (bOr [(bOf (dName 4)), (bNot (bType "int" (dName 3)))]) (sSeq [sRet (dLit (.bool false))]) (sSeq []),
    sRet (bVal (b2 vEq (dName 3) (dCall F_law_value [(aVal (d2 vItem (dLit opsD) (dName 0))), (aVal (dName 1)), (aVal (dName 2))])))])
noncomputable def F_law_operator_right : List Slot → Option PyData := runFn 3 2 D_law_operator_right
noncomputable def D_law : DS := (sSeq [sIf (b2 vLt (d1 vLen (dName 0)) (dLit (.int 24))) (sSeq [sRet (dLit (.bool true))]) (sSeq []),
    sLet 1 (d2 vMod (d2 vItem (dName 0) (dLit (.int 0))) (dLit (.int 7))),
    sLet 2 (dTup [(dTup [(d2 vItem (dName 0) (dLit (.int 4))), (d2 vItem (dName 0) (dLit (.int 5))), (d2 vItem (dName 0) (dLit (.int 6)))]), (dTup [(d2 vItem (dName 0) (dLit (.int 7))), (d2 vItem (dName 0) (dLit (.int 8))), (d2 vItem (dName 0) (dLit (.int 9)))]), (dTup [(d2 vItem (dName 0) (dLit (.int 10))), (d2 vItem (dName 0) (dLit (.int 11))), (d2 vItem (dName 0) (dLit (.int 12)))]), (dTup [(d2 vItem (dName 0) (dLit (.int 13))), (d2 vItem (dName 0) (dLit (.int 14))), (d2 vItem (dName 0) (dLit (.int 15)))]), (dTup [(d2 vItem (dName 0) (dLit (.int 16))), (d2 vItem (dName 0) (dLit (.int 17))), (d2 vItem (dName 0) (dLit (.int 18)))]), (dTup [(d2 vItem (dName 0) (dLit (.int 19))), (d2 vItem (dName 0) (dLit (.int 20))), (d2 vItem (dName 0) (dLit (.int 21)))])]),
    sLet 3 (dLst []),
    sFor (toOne 4) (rangeTo (dLit (.int 6))) (sSeq [sIf (b2 vLt (dName 4) (dName 1)) (sSeq [sUnpack [5, 6, 7] (d2 vItem (dName 2) (dName 4)),
            sLet 3 (d2 vAdd (dName 3) (dCall F_law_chunk [(aVal (d2 vMod (dName 5) (dLit (.int 12)))), (aVal (dName 6)), (aVal (dName 7))]))]) (sSeq [])]),
    sLet 8 (d1 vLen (dName 3)),
    sLet 9 (dCall F_law_code [(aVal (dName 3))]),
    sLet 10 (dCall F_law_code [(aVal (dName 3))]),
    sLet 11 (dCall F_law_table [(aVal (d2 vMod (d2 vItem (dName 0) (dLit (.int 1))) (dLit (.int 3)))), (aVal (d2 vItem (dName 0) (dLit (.int 2)))), (aVal (d2 vItem (dName 0) (dLit (.int 3)))), (aVal (dName 8))]),
    sLet 12 (dCall F_law_table [(aVal (d2 vMod (d2 vItem (dName 0) (dLit (.int 1))) (dLit (.int 3)))), (aVal (d2 vItem (dName 0) (dLit (.int 2)))), (aVal (d2 vItem (dName 0) (dLit (.int 3)))), (aVal (dName 8))]),
    sLet 13 (d2 vAdd (dComp (lComp 2 [] (unpackTo [0, 1]) (items (dName 10)) (b2 vIn (dName 0) (dTup [(dLit (.str "JUMP")), (dLit (.str "JZ"))])) (dName 1))) (dComp (lComp 1 [] (toOne 0) (items (dName 12)) bTrue (d2 vItem (dName 0) (dLit (.int 3)))))),
    sUnpack [14, 15] (dCall F_law_short [(aVal (dName 10)), (aVal (dName 13))]),
    sLet 16 (dComp (lComp 4 [15] (unpackTo [0, 1, 2, 3]) (items (dName 12)) bTrue (dTup [(dName 0), (dName 1), (dName 2), (d2 vItem (dName 4) (dName 3))]))),
    sIf (b2 vNe (dCall F_jump_targets [(aVal (dName 9)), (aVal (dName 11))]) (dComp (lComp 1 [13] (toOne 0) (range2 (d1 vNeg (dLit (.int 1))) (d2 vAdd (dName 8) (dLit (.int 2)))) (b2 vIn (dName 0) (dName 1)) (dName 0)))) (sSeq [sRet (dLit (.bool false))]) (sSeq []),
    sLet 17 (dCall F_fold_once [(aVal (dName 9)), (aVal (dName 11))]),
    sIf (b2 vNe (d1 vLen (dName 17)) (dName 8)) (sSeq [sRet (dLit (.bool false))]) (sSeq []),
    sFor (toOne 4) (rangeTo (dName 8)) (sSeq [sIf (bAnd [(b2 vNe (d2 vItem (dName 17) (dName 4)) (d2 vItem (dName 10) (dName 4))), (b2 vNe (d2 vItem (dName 17) (dName 4)) (dTup [(dLit (.str "NOP")), (dLit (.int 0))])), (b2 vNe (d2 vItem (d2 vItem (dName 17) (dName 4)) (dLit (.int 0))) (dLit (.str "PUSH")))]) (sSeq [sRet (dLit (.bool false))]) (sSeq [])]),
    sLet 18 (dCall F_optimize [(aVal (dName 9)), (aVal (dName 11))]),
    sIf (bNot (bType "tuple" (dName 18))) (sSeq [sRet (dLit (.bool false))]) (sSeq []),
    sUnpack [19, 20] (dName 18),
    sIf (bOr [(bNot (bType "list" (dName 19))), (bNot (bType "list" (dName 20)))]) (sSeq [sRet (dLit (.bool false))]) (sSeq []),
    sIf (b2 vNe (dName 19) (dName 14)) (sSeq [sRet (dLit (.bool false))]) (sSeq []),
    sFor (unpackTo [21, 22]) (items (dName 19)) (sSeq [sIf (bNot (bType "int" (dName 22))) (sSeq [sRet (dLit (.bool false))]) (sSeq [])]),
    sIf (b2 vNe (dName 20) (dName 16)) (sSeq [sRet (dLit (.bool false))]) (sSeq []),
    sIf (bOr [(b2 vNe (dName 9) (dName 10)), (b2 vNe (dName 11) (dName 12))]) (sSeq [sRet (dLit (.bool false))]) (sSeq []),
    sIf (bNot (bOf (dCall F_law_operator_right [(aVal (d2 vMod (d2 vItem (dName 0) (dLit (.int 23))) (dLit (.int 11)))), (aVal (d2 vSub (d2 vMod (d2 vItem (dName 0) (dLit (.int 22))) (dLit (.int 7))) (dLit (.int 3)))), (aVal (d2 vSub (d2 vMod (d2 vItem (dName 0) (dLit (.int 2))) (dLit (.int 7))) (dLit (.int 3))))]))) (sSeq [sRet (dLit (.bool false))]) (sSeq []),
    sRet (dLit (.bool true))])
noncomputable def F_law : List Slot → Option PyData := runFn 1 22 D_law
set_option genSizeOfSpec false in
set_option genInjectivity false in
structure Env7 (w : World) (K : KB) where
  apply_binary : FnHere P7 K "apply_binary" 3
  jump_targets : FnHere P7 K "jump_targets" 4
  fold_once : FnHere P7 K "fold_once" 5
  strip_nops : FnHere P7 K "strip_nops" 6
  optimize : FnHere P7 K "optimize" 7
  law_holds : FnHere P7 K "_law_holds" 11
  law_chunk : FnHere P7 K "_law_chunk" 12
  law_code : FnHere P7 K "_law_code" 13
  law_table : FnHere P7 K "_law_table" 14
  law_no_value : FnHere P7 K "_law_no_value" 15
  law_value : FnHere P7 K "_law_value" 16
  law_short : FnHere P7 K "_law_short" 17
  law_operator_right : FnHere P7 K "_law_operator_right" 18
  law : FnHere P7 K "law" 19
  b_sorted : Glb (KTop K) "sorted" (.builtin "sorted")
  b_len : Glb (KTop K) "len" (.builtin "len")
  b_list : Glb (KTop K) "list" (.type "list")
  b_range : Glb (KTop K) "range" (.type "range")
  b_int : Glb (KTop K) "int" (.type "int")
  b_type : Glb (KTop K) "type" (.type "type")
  b_tuple : Glb (KTop K) "tuple" (.type "tuple")
  c_law_ops : Const (KTop K) "_law_ops" opsD
  c_law_signs : Const (KTop K) "_law_signs" signsD
  c_SIGN_OF : DConst P7 w (KTop K) "SIGN_OF" signOf
  a_err : Addr
  n_err : nsIn K.frag mainGlobals "RunError" = some (some (.ref a_err))
end Mine
end
section
set_option maxRecDepth 100000
set_option maxHeartbeats 1000000
namespace Mine
open PySem PySem.W PySem.Calls PyProof.Rows
theorem ok_apply_binary {K : KB} {w : World} {base : Heap} (H : Env7 w K) : FnOk P7 w (KTop K) base H.apply_binary.a 1 F_apply_binary := by
  obtain ⟨qual, kV, doc, pm, an, cdv, ct, e⟩ := H.apply_binary.e
  have F := H.apply_binary.F
  rw [e] at F
  refine fn_ok (ps := ["op", "a", "b"]) (rest := ["holds"]) ktop_p F.hf { body := rfl, clos := rfl, glob := rfl, bi := rfl, kind := rfl, gen := rfl, co := rfl, bind := fun vals h => by (obtain ⟨a, b, c, rfl⟩ := len3 h; rfl), nd := by decide +kernel, loc := show ∀ x ∈ (["op", "a", "b"] : List Str), (fnScope P7 3).names.lookup x = some .local from by decide +kernel, cells := cells_of (names := (fnScope P7 3).names) (by decide +kernel) } (fun C ok hN hS hL hB => ?_)
  obtain ⟨L, hL1, hC, hP⟩ := hL
  subst hL1
  have hC : C.env.cells = cellsFrom (C.env.locals + 1) (fnScope P7 3).names [] := hC
  rw [hC] at hP
  subst hB
  simp only [List.cons_append, List.nil_append] at hN
  have hS : C.env.scope = fnScope P7 3 := hS
  have l_op : LX C 0 "op" := lx_local hN hS rfl (by decide +kernel) (by decide +kernel)
  have l_a : LX C 1 "a" := lx_local hN hS rfl (by decide +kernel) (by decide +kernel)
  have l_b : LX C 2 "b" := lx_local hN hS rfl (by decide +kernel) (by decide +kernel)
  have l_holds : LX C 3 "holds" := lx_local hN hS rfl (by decide +kernel) (by decide +kernel)
  have g_RunError : C.env.kindOf "RunError" = some .globalImplicit := glb_of hS (by decide +kernel)
  exact (sss_cons (ss_if (sb_cmp (cmp_eq ok.room) (e_name ok l_op.toVX) se_str) (sss_cons (ss_ret (se_bin rfl ok op_add (e_name ok l_a.toVX) (e_name ok l_b.toVX)))
        sss_nil) sss_nil)
    (sss_cons (ss_if (sb_cmp (cmp_eq ok.room) (e_name ok l_op.toVX) se_str) (sss_cons (ss_ret (se_bin rfl ok op_sub (e_name ok l_a.toVX) (e_name ok l_b.toVX)))
        sss_nil) sss_nil)
    (sss_cons (ss_if (sb_cmp (cmp_eq ok.room) (e_name ok l_op.toVX) se_str) (sss_cons (ss_ret (se_bin rfl ok op_mul (e_name ok l_a.toVX) (e_name ok l_b.toVX)))
        sss_nil) sss_nil)
    (sss_cons (ss_if (sb_cmp (cmp_in ok.room) (e_name ok l_op.toVX) (se_tuple (ses_cons se_str (ses_cons se_str ses_nil)))) (sss_cons (ss_if (sb_cmp (cmp_eq ok.room) (e_name ok l_b.toVX) se_int) (sss_cons ss_no
            sss_nil) sss_nil)
        (sss_cons (ss_if (sb_cmp (cmp_eq ok.room) (e_name ok l_op.toVX) se_str) (sss_cons (ss_ret (se_bin rfl ok op_div (e_name ok l_a.toVX) (e_name ok l_b.toVX)))
            sss_nil) sss_nil)
        (sss_cons (ss_ret (se_bin rfl ok op_mod (e_name ok l_a.toVX) (e_name ok l_b.toVX)))
        sss_nil))) sss_nil)
    (sss_cons (ss_if (sb_cmp (cmp_eq ok.room) (e_name ok l_op.toVX) se_str) (sss_cons (s_let ok l_holds (se_cmp (cmp_lt) (e_name ok l_a.toVX) (e_name ok l_b.toVX)))
        sss_nil) (sss_cons (ss_if (sb_cmp (cmp_eq ok.room) (e_name ok l_op.toVX) se_str) (sss_cons (s_let ok l_holds (se_cmp (cmp_le) (e_name ok l_a.toVX) (e_name ok l_b.toVX)))
            sss_nil) (sss_cons (ss_if (sb_cmp (cmp_eq ok.room) (e_name ok l_op.toVX) se_str) (sss_cons (s_let ok l_holds (se_cmp (cmp_eq ok.room) (e_name ok l_a.toVX) (e_name ok l_b.toVX)))
                sss_nil) (sss_cons (ss_if (sb_cmp (cmp_eq ok.room) (e_name ok l_op.toVX) se_str) (sss_cons (s_let ok l_holds (se_cmp (cmp_ne ok.room) (e_name ok l_a.toVX) (e_name ok l_b.toVX)))
                    sss_nil) (sss_cons (ss_if (sb_cmp (cmp_eq ok.room) (e_name ok l_op.toVX) se_str) (sss_cons (s_let ok l_holds (se_cmp (cmp_gt) (e_name ok l_a.toVX) (e_name ok l_b.toVX)))
                        sss_nil) (sss_cons (s_let ok l_holds (se_cmp (cmp_ge) (e_name ok l_a.toVX) (e_name ok l_b.toVX)))
                        sss_nil))
                    sss_nil))
                sss_nil))
            sss_nil))
        sss_nil))
    (sss_cons (ss_if (b_name ok l_holds.toVX) (sss_cons (ss_ret se_int)
        sss_nil) sss_nil)
    (sss_cons (ss_ret se_int)
    sss_nil)))))))
theorem ok_jump_targets {K : KB} {w : World} {base : Heap} (H : Env7 w K) : FnOk P7 w (KTop K) base H.jump_targets.a 1 F_jump_targets := by
  obtain ⟨qual, kV, doc, pm, an, cdv, ct, e⟩ := H.jump_targets.e
  have F := H.jump_targets.F
  rw [e] at F
  refine fn_ok (ps := ["code", "table"]) (rest := ["found", "targets", "a"]) ktop_p F.hf { body := rfl, clos := rfl, glob := rfl, bi := rfl, kind := rfl, gen := rfl, co := rfl, bind := fun vals h => by (obtain ⟨a, b, rfl⟩ := len2' h; rfl), nd := by decide +kernel, loc := show ∀ x ∈ (["code", "table"] : List Str), (fnScope P7 4).names.lookup x = some .local from by decide +kernel, cells := cells_of (names := (fnScope P7 4).names) (by decide +kernel) } (fun C ok hN hS hL hB => ?_)
  obtain ⟨L, hL1, hC, hP⟩ := hL
  subst hL1
  have hC : C.env.cells = cellsFrom (C.env.locals + 1) (fnScope P7 4).names [] := hC
  rw [hC] at hP
  subst hB
  simp only [List.cons_append, List.nil_append] at hN
  have hS : C.env.scope = fnScope P7 4 := hS
  have l_code : LX C 0 "code" := lx_local hN hS rfl (by decide +kernel) (by decide +kernel)
  have l_table : LX C 1 "table" := lx_local hN hS rfl (by decide +kernel) (by decide +kernel)
  have l_found : LX C 2 "found" := lx_local hN hS rfl (by decide +kernel) (by decide +kernel)
  have l_targets : LX C 3 "targets" := lx_local hN hS rfl (by decide +kernel) (by decide +kernel)
  have l_a : LX C 4 "a" := lx_local hN hS rfl (by decide +kernel) (by decide +kernel)
  have g_sorted : C.env.kindOf "sorted" = some .globalImplicit := glb_of hS (by decide +kernel)
  have g_len : C.env.kindOf "len" = some .globalImplicit := glb_of hS (by decide +kernel)
  exact (sss_cons (ss_compOwn ktop_p ok l_found.n l_found.s (comp0 ["op", "arg"] rfl (by decide +kernel) (by decide +kernel) (tgt_unpack (by decide)) (si_val (e_name ok l_code.toVX)) (fun L' X' s' ok' => ⟨(st_tuple ok' (nm_cons (lx_comp rfl (by decide +kernel) (by decide +kernel)) (nm_cons (lx_comp rfl (by decide +kernel) (by decide +kernel)) .nil))), (sts_one (sb_cmp (cmp_in ok'.room) (e_name ok' (lx_comp rfl (by decide +kernel) (by decide +kernel)).toVX) (se_tuple (ses_cons se_str (ses_cons se_str ses_nil))))), (e_name ok' (lx_comp rfl (by decide +kernel) (by decide +kernel)).toVX)⟩)) (swaps_true (i := 0) ok hS (by decide +kernel) rfl (by decide +kernel)))
    (sss_cons (s_extend ok l_found.toVX (seo_comp ktop_p ok (comp0 ["row"] rfl (by decide +kernel) (by decide +kernel) (tgt_one (by decide)) (si_val (e_name ok l_table.toVX)) (fun L' X' s' ok' => ⟨(t_name ok' (lx_comp rfl (by decide +kernel) (by decide +kernel))), sts_nil, (se_item (e_name ok' (lx_comp rfl (by decide +kernel) (by decide +kernel)).toVX) se_int)⟩))))
    (sss_cons (s_own ok l_targets seo_nil)
    (s_freeze ok l_found.toVX
    (sss_cons (ss_for ok (si_val (se_call1 ok H.b_sorted (.inl ⟨_, rfl⟩) fn_sorted (e_name ok l_found.toVX) g_sorted)) (t_name ok l_a) (sss_cons (ss_if (sb_op (sbs_or (sb_cmp (cmp_eq ok.room) (e_ownLen ok l_targets.toVX H.b_len g_len) se_int) (sbs_or (sb_cmp (cmp_ne ok.room) (e_ownItem ok l_targets.toVX (se_neg se_int)) (e_name ok l_a.toVX)) sbs_or_nil))) (sss_cons (s_append ok l_targets.toVX (e_name ok l_a.toVX))
            sss_nil) sss_nil)
        sss_nil))
    (s_freeze ok l_targets.toVX
    (sss_cons (ss_ret (e_name ok l_targets.toVX))
    sss_nil)))))))
theorem ok_fold_once {K : KB} {w : World} {base : Heap} (H : Env7 w K) : FnOk P7 w (KTop K) base H.fold_once.a 2 F_fold_once := by
  obtain ⟨qual, kV, doc, pm, an, cdv, ct, e⟩ := H.fold_once.e
  have F := H.fold_once.F
  rw [e] at F
  refine fn_ok (ps := ["code", "table"]) (rest := ["targets", "folded", "i", "op", "a", "second", "b", "third"]) ktop_p F.hf { body := rfl, clos := rfl, glob := rfl, bi := rfl, kind := rfl, gen := rfl, co := rfl, bind := fun vals h => by (obtain ⟨a, b, rfl⟩ := len2' h; rfl), nd := by decide +kernel, loc := show ∀ x ∈ (["code", "table"] : List Str), (fnScope P7 5).names.lookup x = some .local from by decide +kernel, cells := cells_of (names := (fnScope P7 5).names) (by decide +kernel) } (fun C ok hN hS hL hB => ?_)
  obtain ⟨L, hL1, hC, hP⟩ := hL
  subst hL1
  have hC : C.env.cells = cellsFrom (C.env.locals + 1) (fnScope P7 5).names [] := hC
  rw [hC] at hP
  subst hB
  simp only [List.cons_append, List.nil_append] at hN
  have hS : C.env.scope = fnScope P7 5 := hS
  have l_code : LX C 0 "code" := lx_local hN hS rfl (by decide +kernel) (by decide +kernel)
  have l_table : LX C 1 "table" := lx_local hN hS rfl (by decide +kernel) (by decide +kernel)
  have l_targets : LX C 2 "targets" := lx_local hN hS rfl (by decide +kernel) (by decide +kernel)
  have l_folded : LX C 3 "folded" := lx_local hN hS rfl (by decide +kernel) (by decide +kernel)
  have l_i : LX C 4 "i" := lx_local hN hS rfl (by decide +kernel) (by decide +kernel)
  have l_op : LX C 5 "op" := lx_local hN hS rfl (by decide +kernel) (by decide +kernel)
  have l_a : LX C 6 "a" := lx_local hN hS rfl (by decide +kernel) (by decide +kernel)
  have l_second : LX C 7 "second" := lx_local hN hS rfl (by decide +kernel) (by decide +kernel)
  have l_b : LX C 8 "b" := lx_local hN hS rfl (by decide +kernel) (by decide +kernel)
  have l_third : LX C 9 "third" := lx_local hN hS rfl (by decide +kernel) (by decide +kernel)
  have g_jump_targets : C.env.kindOf "jump_targets" = some .globalImplicit := glb_of hS (by decide +kernel)
  have g_list : C.env.kindOf "list" = some .globalImplicit := glb_of hS (by decide +kernel)
  have g_range : C.env.kindOf "range" = some .globalImplicit := glb_of hS (by decide +kernel)
  have g_len : C.env.kindOf "len" = some .globalImplicit := glb_of hS (by decide +kernel)
  have g_SIGN_OF : C.env.kindOf "SIGN_OF" = some .globalImplicit := glb_of hS (by decide +kernel)
  have g_apply_binary : C.env.kindOf "apply_binary" = some .globalImplicit := glb_of hS (by decide +kernel)
  exact (sss_cons (s_let ok l_targets (se_call ktop_p ok H.jump_targets.F.glb H.jump_targets.F.obj (ok_jump_targets H) (by decide) (sas_cons (sa_val (e_name ok l_code.toVX)) (sas_cons (sa_val (e_name ok l_table.toVX)) sas_nil)) g_jump_targets))
    (sss_cons (s_own ok l_folded (seo_list ok H.b_list (e_name ok l_code.toVX) g_list))
    (sss_cons (ss_for ok (si_range1 ok H.b_range (se_bin rfl ok op_sub (e_ownLen ok l_folded.toVX H.b_len g_len) se_int) g_range) (t_name ok l_i) (sss_cons (ss_unpack ok (nm_cons l_op (nm_cons l_a .nil)) (e_ownItem ok l_folded.toVX (e_name ok l_i.toVX)))
        (sss_cons (ss_if (sb_op (sbs_or (sb_cmp (cmp_ne ok.room) (e_name ok l_op.toVX) se_str) (sbs_or (sb_cmp (cmp_in ok.room) (se_bin rfl ok op_add (e_name ok l_i.toVX) se_int) (e_name ok l_targets.toVX)) sbs_or_nil))) (sss_cons ss_cont
            sss_nil) sss_nil)
        (sss_cons (ss_unpack ok (nm_cons l_second (nm_cons l_b .nil)) (e_ownItem ok l_folded.toVX (se_bin rfl ok op_add (e_name ok l_i.toVX) se_int)))
        (sss_cons (ss_if (sb_cmp (cmp_eq ok.room) (e_name ok l_second.toVX) se_str) (sss_cons (s_setItem ok l_folded.toVX (e_name ok l_i.toVX) (se_tuple (ses_cons se_str (ses_cons se_int ses_nil))))
            (sss_cons (s_setItem ok l_folded.toVX (se_bin rfl ok op_add (e_name ok l_i.toVX) se_int) (se_tuple (ses_cons se_str (ses_cons (se_neg (e_name ok l_a.toVX)) ses_nil))))
            sss_nil)) (sss_cons (ss_if (sb_cmp (cmp_eq ok.room) (e_name ok l_second.toVX) se_str) (sss_cons (s_setItem ok l_folded.toVX (e_name ok l_i.toVX) (se_tuple (ses_cons se_str (ses_cons se_int ses_nil))))
                (sss_cons (s_setItem ok l_folded.toVX (se_bin rfl ok op_add (e_name ok l_i.toVX) se_int) (se_tuple (ses_cons se_str (ses_cons (se_ite (sb_cmp (cmp_eq ok.room) (e_name ok l_a.toVX) se_int) se_int se_int) ses_nil))))
                sss_nil)) (sss_cons (ss_if (sb_op (sbs_and (sb_cmp (cmp_eq ok.room) (e_name ok l_second.toVX) se_str) (sbs_and (sb_cmp (cmp_lt) (se_bin rfl ok op_add (e_name ok l_i.toVX) se_int) (e_ownLen ok l_folded.toVX H.b_len g_len)) (sbs_and (sb_cmp (cmp_notIn ok.room) (se_bin rfl ok op_add (e_name ok l_i.toVX) se_int) (e_name ok l_targets.toVX)) sbs_and_nil)))) (sss_cons (s_let ok l_third (se_item (e_ownItem ok l_folded.toVX (se_bin rfl ok op_add (e_name ok l_i.toVX) se_int)) se_int))
                    (sss_cons (ss_if (sb_op (sbs_and (sb_has (e_name ok l_third.toVX) (sd_glob ok H.c_SIGN_OF g_SIGN_OF)) (sbs_and (sb_not (sb_op (sbs_and (sb_cmp (cmp_in ok.room) (e_name ok l_third.toVX) (se_tuple (ses_cons se_str (ses_cons se_str ses_nil)))) (sbs_and (sb_cmp (cmp_eq ok.room) (e_name ok l_b.toVX) se_int) sbs_and_nil)))) sbs_and_nil))) (sss_cons (s_setItem ok l_folded.toVX (e_name ok l_i.toVX) (se_tuple (ses_cons se_str (ses_cons se_int ses_nil))))
                        (sss_cons (s_setItem ok l_folded.toVX (se_bin rfl ok op_add (e_name ok l_i.toVX) se_int) (se_tuple (ses_cons se_str (ses_cons se_int ses_nil))))
                        (sss_cons (s_setItem ok l_folded.toVX (se_bin rfl ok op_add (e_name ok l_i.toVX) se_int) (se_tuple (ses_cons se_str (ses_cons (se_call ktop_p ok H.apply_binary.F.glb H.apply_binary.F.obj (ok_apply_binary H) (by decide) (sas_cons (sa_val (se_tab (sd_glob ok H.c_SIGN_OF g_SIGN_OF) (e_name ok l_third.toVX))) (sas_cons (sa_val (e_name ok l_a.toVX)) (sas_cons (sa_val (e_name ok l_b.toVX)) sas_nil))) g_apply_binary) ses_nil))))
                        sss_nil))) sss_nil)
                    sss_nil)) sss_nil)
                sss_nil))
            sss_nil))
        sss_nil)))))
    (s_freeze ok l_folded.toVX
    (sss_cons (ss_ret (e_name ok l_folded.toVX))
    sss_nil)))))
theorem ok_strip_nops {K : KB} {w : World} {base : Heap} (H : Env7 w K) : FnOk P7 w (KTop K) base H.strip_nops.a 1 F_strip_nops := by
  obtain ⟨qual, kV, doc, pm, an, cdv, ct, e⟩ := H.strip_nops.e
  have F := H.strip_nops.F
  rw [e] at F
  refine fn_ok (ps := ["code", "table"]) (rest := ["moved", "kept", "op", "arg", "stripped"]) ktop_p F.hf { body := rfl, clos := rfl, glob := rfl, bi := rfl, kind := rfl, gen := rfl, co := rfl, bind := fun vals h => by (obtain ⟨a, b, rfl⟩ := len2' h; rfl), nd := by decide +kernel, loc := show ∀ x ∈ (["code", "table"] : List Str), (fnScope P7 6).names.lookup x = some .local from by decide +kernel, cells := cells_of (names := (fnScope P7 6).names) (by decide +kernel) } (fun C ok hN hS hL hB => ?_)
  obtain ⟨L, hL1, hC, hP⟩ := hL
  subst hL1
  have hC : C.env.cells = cellsFrom (C.env.locals + 1) (fnScope P7 6).names [] := hC
  rw [hC] at hP
  subst hB
  simp only [List.cons_append, List.nil_append] at hN
  have hS : C.env.scope = fnScope P7 6 := hS
  have l_code : LX C 0 "code" := lx_local hN hS rfl (by decide +kernel) (by decide +kernel)
  have l_table : LX C 1 "table" := lx_local hN hS rfl (by decide +kernel) (by decide +kernel)
  have l_moved : LX C 2 "moved" := lx_cell hN hS hC hP rfl (by decide +kernel) (by decide +kernel) rfl
  have l_kept : LX C 3 "kept" := lx_local hN hS rfl (by decide +kernel) (by decide +kernel)
  have l_op : LX C 4 "op" := lx_local hN hS rfl (by decide +kernel) (by decide +kernel)
  have l_arg : LX C 5 "arg" := lx_local hN hS rfl (by decide +kernel) (by decide +kernel)
  have l_stripped : LX C 6 "stripped" := lx_local hN hS rfl (by decide +kernel) (by decide +kernel)
  have g_len : C.env.kindOf "len" = some .globalImplicit := glb_of hS (by decide +kernel)
  exact (sss_cons (s_own ok l_moved seo_nil)
    (sss_cons (s_let ok l_kept se_int)
    (sss_cons (ss_for ok (si_val (e_name ok l_code.toVX)) (st_tuple ok (nm_cons l_op (nm_cons l_arg .nil))) (sss_cons (s_append ok l_moved.toVX (e_name ok l_kept.toVX))
        (sss_cons (ss_if (sb_cmp (cmp_ne ok.room) (e_name ok l_op.toVX) se_str) (sss_cons (s_let ok l_kept (se_bin rfl ok op_add (e_name ok l_kept.toVX) se_int))
            sss_nil) sss_nil)
        sss_nil)))
    (sss_cons (s_append ok l_moved.toVX (e_name ok l_kept.toVX))
    (s_freeze ok l_moved.toVX
    (sss_cons (s_own ok l_stripped seo_nil)
    (sss_cons (ss_for ok (si_val (e_name ok l_code.toVX)) (st_tuple ok (nm_cons l_op (nm_cons l_arg .nil))) (sss_cons (ss_if (sb_op (sbs_and (sb_cmp (cmp_in ok.room) (e_name ok l_op.toVX) (se_tuple (ses_cons se_str (ses_cons se_str ses_nil)))) (sbs_and (sb_chain se_int (e_name ok l_arg.toVX) (se_call1 ok H.b_len (.inl ⟨_, rfl⟩) fn_len (e_name ok l_code.toVX) g_len)) sbs_and_nil))) (sss_cons (s_append ok l_stripped.toVX (se_tuple (ses_cons (e_name ok l_op.toVX) (ses_cons (se_item (e_name ok l_moved.toVX) (e_name ok l_arg.toVX)) ses_nil))))
            sss_nil) (sss_cons (ss_if (sb_cmp (cmp_ne ok.room) (e_name ok l_op.toVX) se_str) (sss_cons (s_append ok l_stripped.toVX (se_tuple (ses_cons (e_name ok l_op.toVX) (ses_cons (e_name ok l_arg.toVX) ses_nil))))
                sss_nil) sss_nil)
            sss_nil))
        sss_nil))
    (s_freeze ok l_stripped.toVX
    (sss_cons (ss_ret (se_tuple (ses_cons (e_name ok l_stripped.toVX) (ses_cons (se_fresh (seo_comp ktop_p ok (compC ["name", "params", "size", "entry", "moved"] ["moved"] hS rfl rfl (by decide +kernel) (by decide +kernel) (by decide +kernel) (fun x hx => by simp only [List.mem_cons, List.not_mem_nil, or_false] at hx; subst hx; rw [hC]; rfl) (by decide +kernel) (by decide +kernel) (seen_of hN (by decide +kernel)) (tgt_unpack (by decide)) (si_val (e_name ok l_table.toVX)) (fun L' X' s' ok' => ⟨(st_tuple ok' (nm_cons (lx_comp rfl (by decide +kernel) (by decide +kernel)) (nm_cons (lx_comp rfl (by decide +kernel) (by decide +kernel)) (nm_cons (lx_comp rfl (by decide +kernel) (by decide +kernel)) (nm_cons (lx_comp rfl (by decide +kernel) (by decide +kernel)) .nil))))), sts_nil, (se_tuple (ses_cons (e_name ok' (lx_comp rfl (by decide +kernel) (by decide +kernel)).toVX) (ses_cons (e_name ok' (lx_comp rfl (by decide +kernel) (by decide +kernel)).toVX) (ses_cons (e_name ok' (lx_comp rfl (by decide +kernel) (by decide +kernel)).toVX) (ses_cons (se_item (e_name ok' (vx_comp hS rfl (by decide +kernel) rfl (by decide +kernel) (cl_lookup (by decide +kernel)) (by decide +kernel))) (e_name ok' (lx_comp rfl (by decide +kernel) (by decide +kernel)).toVX)) ses_nil)))))⟩)))) ses_nil))))
    sss_nil)))))))))
theorem ok_optimize {K : KB} {w : World} {base : Heap} (H : Env7 w K) : FnOk P7 w (KTop K) base H.optimize.a 3 F_optimize := by
  obtain ⟨qual, kV, doc, pm, an, cdv, ct, e⟩ := H.optimize.e
  have F := H.optimize.F
  rw [e] at F
  refine fn_ok (ps := ["code", "table"]) (rest := ["i", "better", "moved"]) ktop_p F.hf { body := rfl, clos := rfl, glob := rfl, bi := rfl, kind := rfl, gen := rfl, co := rfl, bind := fun vals h => by (obtain ⟨a, b, rfl⟩ := len2' h; rfl), nd := by decide +kernel, loc := show ∀ x ∈ (["code", "table"] : List Str), (fnScope P7 7).names.lookup x = some .local from by decide +kernel, cells := cells_of (names := (fnScope P7 7).names) (by decide +kernel) } (fun C ok hN hS hL hB => ?_)
  obtain ⟨L, hL1, hC, hP⟩ := hL
  subst hL1
  have hC : C.env.cells = cellsFrom (C.env.locals + 1) (fnScope P7 7).names [] := hC
  rw [hC] at hP
  subst hB
  simp only [List.cons_append, List.nil_append] at hN
  have hS : C.env.scope = fnScope P7 7 := hS
  have l_code : LX C 0 "code" := lx_local hN hS rfl (by decide +kernel) (by decide +kernel)
  have l_table : LX C 1 "table" := lx_local hN hS rfl (by decide +kernel) (by decide +kernel)
  have l_i : LX C 2 "i" := lx_local hN hS rfl (by decide +kernel) (by decide +kernel)
  have l_better : LX C 3 "better" := lx_local hN hS rfl (by decide +kernel) (by decide +kernel)
  have l_moved : LX C 4 "moved" := lx_local hN hS rfl (by decide +kernel) (by decide +kernel)
  have g_range : C.env.kindOf "range" = some .globalImplicit := glb_of hS (by decide +kernel)
  have g_len : C.env.kindOf "len" = some .globalImplicit := glb_of hS (by decide +kernel)
  have g_strip_nops : C.env.kindOf "strip_nops" = some .globalImplicit := glb_of hS (by decide +kernel)
  have g_fold_once : C.env.kindOf "fold_once" = some .globalImplicit := glb_of hS (by decide +kernel)
  have g_list : C.env.kindOf "list" = some .globalImplicit := glb_of hS (by decide +kernel)
  exact (sss_cons (ss_for ok (si_range1 ok H.b_range (se_bin rfl ok op_add (se_call1 ok H.b_len (.inl ⟨_, rfl⟩) fn_len (e_name ok l_code.toVX) g_len) se_int) g_range) (t_name ok l_i) (sss_cons (ss_unpack ok (nm_cons l_better (nm_cons l_moved .nil)) (se_call ktop_p ok H.strip_nops.F.glb H.strip_nops.F.obj (ok_strip_nops H) (by decide) (sas_cons (sa_val (se_call ktop_p ok H.fold_once.F.glb H.fold_once.F.obj (ok_fold_once H) (by decide) (sas_cons (sa_val (e_name ok l_code.toVX)) (sas_cons (sa_val (e_name ok l_table.toVX)) sas_nil)) g_fold_once)) (sas_cons (sa_val (e_name ok l_table.toVX)) sas_nil)) g_strip_nops))
        (sss_cons (ss_if (sb_cmp (cmp_eq ok.room) (e_name ok l_better.toVX) (e_name ok l_code.toVX)) (sss_cons ss_brk
            sss_nil) sss_nil)
        (sss_cons (s_let ok l_code (e_name ok l_better.toVX))
        (sss_cons (s_let ok l_table (e_name ok l_moved.toVX))
        sss_nil)))))
    (sss_cons (ss_ret (se_tuple (ses_cons (se_call1 ok H.b_list (.inr ⟨_, rfl⟩) fn_list (e_name ok l_code.toVX) g_list) (ses_cons (se_call1 ok H.b_list (.inr ⟨_, rfl⟩) fn_list (e_name ok l_table.toVX) g_list) ses_nil))))
    sss_nil))
theorem ok_law_holds {K : KB} {w : World} {base : Heap} (H : Env7 w K) : FnDict P7 w (KTop K) base H.law_holds.a 1 kvs_law_holds := by
  obtain ⟨qual, kV, doc, pm, an, cdv, ct, e⟩ := H.law_holds.e
  have F := H.law_holds.F
  rw [e] at F
  refine fn_dict ktop_p F.hf { body := rfl, clos := rfl, glob := rfl, bi := rfl, kind := rfl, gen := rfl, co := rfl, bind := fun vals h => by (have := len0 h; subst this; rfl), nd := by decide +kernel, loc := show ∀ x ∈ ([] : List Str), (fnScope P7 11).names.lookup x = some .local from by decide +kernel, cells := cells_of (names := (fnScope P7 11).names) (by decide +kernel) } (dd := D_law_holds) (fun C ok hS => ?_) ?_
  rotate_left
  · rfl
  have hS : C.env.scope = fnScope P7 11 := hS
  unfold D_law_holds
  refine sd_display ok ktop_p.lim ?_ ?_ ?_ ?_ ?_ ?_
  · exact (.cons (.cons (.cons (.cons (.cons (.cons .nil))))))
  · exact (.cons (se_tuple (ses_cons se_int (ses_cons se_int (ses_cons se_int ses_nil)))) (.cons (se_tuple (ses_cons se_int (ses_cons se_int (ses_cons se_int ses_nil)))) (.cons (se_tuple (ses_cons se_int (ses_cons se_int (ses_cons se_int ses_nil)))) (.cons (se_tuple (ses_cons se_int (ses_cons se_int (ses_cons se_int ses_nil)))) (.cons (se_tuple (ses_cons se_int (ses_cons se_int (ses_cons se_int ses_nil)))) (.cons (se_tuple (ses_cons se_int (ses_cons se_int (ses_cons se_int ses_nil)))) .nil))))))
  · rfl
  · exact List.cons_ne_nil _ _
  · decide
  · decide +kernel
theorem ok_law_chunk {K : KB} {w : World} {base : Heap} (H : Env7 w K) : FnOk P7 w (KTop K) base H.law_chunk.a 1 F_law_chunk := by
  obtain ⟨qual, kV, doc, pm, an, cdv, ct, e⟩ := H.law_chunk.e
  have F := H.law_chunk.F
  rw [e] at F
  refine fn_ok (ps := ["kind", "x", "y"]) (rest := ["name", "a", "b", "rows"]) ktop_p F.hf { body := rfl, clos := rfl, glob := rfl, bi := rfl, kind := rfl, gen := rfl, co := rfl, bind := fun vals h => by (obtain ⟨a, b, c, rfl⟩ := len3 h; rfl), nd := by decide +kernel, loc := show ∀ x ∈ (["kind", "x", "y"] : List Str), (fnScope P7 12).names.lookup x = some .local from by decide +kernel, cells := cells_of (names := (fnScope P7 12).names) (by decide +kernel) } (fun C ok hN hS hL hB => ?_)
  obtain ⟨L, hL1, hC, hP⟩ := hL
  subst hL1
  have hC : C.env.cells = cellsFrom (C.env.locals + 1) (fnScope P7 12).names [] := hC
  rw [hC] at hP
  subst hB
  simp only [List.cons_append, List.nil_append] at hN
  have hS : C.env.scope = fnScope P7 12 := hS
  have l_kind : LX C 0 "kind" := lx_local hN hS rfl (by decide +kernel) (by decide +kernel)
  have l_x : LX C 1 "x" := lx_local hN hS rfl (by decide +kernel) (by decide +kernel)
  have l_y : LX C 2 "y" := lx_local hN hS rfl (by decide +kernel) (by decide +kernel)
  have l_name : LX C 3 "name" := lx_local hN hS rfl (by decide +kernel) (by decide +kernel)
  have l_a : LX C 4 "a" := lx_local hN hS rfl (by decide +kernel) (by decide +kernel)
  have l_b : LX C 5 "b" := lx_local hN hS rfl (by decide +kernel) (by decide +kernel)
  have l_rows : LX C 6 "rows" := lx_local hN hS rfl (by decide +kernel) (by decide +kernel)
  have g_law_ops : C.env.kindOf "_law_ops" = some .globalImplicit := glb_of hS (by decide +kernel)
  exact (sss_cons (s_let ok l_name (se_item (se_glob ok H.c_law_ops g_law_ops) (se_bin rfl ok op_mod (se_bin rfl ok op_add (e_name ok l_x.toVX) (se_bin rfl ok op_mul se_int (e_name ok l_y.toVX))) se_int)))
    (sss_cons (s_let ok l_a (se_bin rfl ok op_sub (se_bin rfl ok op_mod (e_name ok l_x.toVX) se_int) se_int))
    (sss_cons (s_let ok l_b (se_bin rfl ok op_sub (se_bin rfl ok op_mod (e_name ok l_y.toVX) se_int) se_int))
    (sss_cons (s_let ok l_rows (se_list (ses_cons (se_list (ses_cons (se_tuple (ses_cons se_str (ses_cons (e_name ok l_a.toVX) ses_nil))) (ses_cons (se_tuple (ses_cons se_str (ses_cons (e_name ok l_b.toVX) ses_nil))) (ses_cons (se_tuple (ses_cons (e_name ok l_name.toVX) (ses_cons se_int ses_nil))) ses_nil)))) (ses_cons (se_list (ses_cons (se_tuple (ses_cons se_str (ses_cons (e_name ok l_b.toVX) ses_nil))) (ses_cons (se_tuple (ses_cons se_str (ses_cons (e_name ok l_a.toVX) ses_nil))) (ses_cons (se_tuple (ses_cons (e_name ok l_name.toVX) (ses_cons se_int ses_nil))) ses_nil)))) (ses_cons (se_list (ses_cons (se_tuple (ses_cons se_str (ses_cons (e_name ok l_a.toVX) ses_nil))) (ses_cons (se_tuple (ses_cons se_str (ses_cons se_int ses_nil))) ses_nil))) (ses_cons (se_list (ses_cons (se_tuple (ses_cons se_str (ses_cons (e_name ok l_a.toVX) ses_nil))) (ses_cons (se_tuple (ses_cons se_str (ses_cons se_int ses_nil))) ses_nil))) (ses_cons (se_list (ses_cons (se_tuple (ses_cons (e_name ok l_name.toVX) (ses_cons se_int ses_nil))) ses_nil)) (ses_cons (se_list (ses_cons (se_tuple (ses_cons se_str (ses_cons (e_name ok l_a.toVX) ses_nil))) (ses_cons (se_tuple (ses_cons se_str (ses_cons (e_name ok l_y.toVX) ses_nil))) (ses_cons (se_tuple (ses_cons se_str (ses_cons (e_name ok l_b.toVX) ses_nil))) ses_nil)))) (ses_cons (se_list (ses_cons (se_tuple (ses_cons se_str (ses_cons se_int ses_nil))) ses_nil)) (ses_cons (se_list (ses_cons (se_tuple (ses_cons se_str (ses_cons (e_name ok l_x.toVX) ses_nil))) ses_nil)) (ses_cons (se_list (ses_cons (se_tuple (ses_cons se_str (ses_cons (e_name ok l_x.toVX) ses_nil))) ses_nil)) (ses_cons (se_list (ses_cons (se_tuple (ses_cons se_str (ses_cons (e_name ok l_a.toVX) ses_nil))) ses_nil)) (ses_cons (se_list (ses_cons (se_tuple (ses_cons se_str (ses_cons (e_name ok l_y.toVX) ses_nil))) ses_nil)) (ses_cons (se_list (ses_cons (se_tuple (ses_cons se_str (ses_cons (e_name ok l_x.toVX) ses_nil))) ses_nil)) ses_nil))))))))))))))
    (sss_cons (ss_ret (se_item (e_name ok l_rows.toVX) (e_name ok l_kind.toVX)))
    sss_nil)))))
theorem ok_law_code {K : KB} {w : World} {base : Heap} (H : Env7 w K) : FnOk P7 w (KTop K) base H.law_code.a 1 F_law_code := by
  obtain ⟨qual, kV, doc, pm, an, cdv, ct, e⟩ := H.law_code.e
  have F := H.law_code.F
  rw [e] at F
  refine fn_ok (ps := ["raw"]) (rest := ["n"]) ktop_p F.hf { body := rfl, clos := rfl, glob := rfl, bi := rfl, kind := rfl, gen := rfl, co := rfl, bind := fun vals h => by (obtain ⟨a, rfl⟩ := len1 h; rfl), nd := by decide +kernel, loc := show ∀ x ∈ (["raw"] : List Str), (fnScope P7 13).names.lookup x = some .local from by decide +kernel, cells := cells_of (names := (fnScope P7 13).names) (by decide +kernel) } (fun C ok hN hS hL hB => ?_)
  obtain ⟨L, hL1, hC, hP⟩ := hL
  subst hL1
  have hC : C.env.cells = cellsFrom (C.env.locals + 1) (fnScope P7 13).names [] := hC
  rw [hC] at hP
  subst hB
  simp only [List.cons_append, List.nil_append] at hN
  have hS : C.env.scope = fnScope P7 13 := hS
  have l_raw : LX C 0 "raw" := lx_local hN hS rfl (by decide +kernel) (by decide +kernel)
  have l_n : LX C 1 "n" := lx_cell hN hS hC hP rfl (by decide +kernel) (by decide +kernel) rfl
  have g_len : C.env.kindOf "len" = some .globalImplicit := glb_of hS (by decide +kernel)
  exact (sss_cons (s_let ok l_n (se_call1 ok H.b_len (.inl ⟨_, rfl⟩) fn_len (e_name ok l_raw.toVX) g_len))
    (sss_cons (ss_ret (se_fresh (seo_comp ktop_p ok (compC ["op", "arg", "n"] ["n"] hS rfl rfl (by decide +kernel) (by decide +kernel) (by decide +kernel) (fun x hx => by simp only [List.mem_cons, List.not_mem_nil, or_false] at hx; subst hx; rw [hC]; rfl) (by decide +kernel) (by decide +kernel) (seen_of hN (by decide +kernel)) (tgt_unpack (by decide)) (si_val (e_name ok l_raw.toVX)) (fun L' X' s' ok' => ⟨(st_tuple ok' (nm_cons (lx_comp rfl (by decide +kernel) (by decide +kernel)) (nm_cons (lx_comp rfl (by decide +kernel) (by decide +kernel)) .nil))), sts_nil, (se_ite (sb_cmp (cmp_in ok'.room) (e_name ok' (lx_comp rfl (by decide +kernel) (by decide +kernel)).toVX) (se_tuple (ses_cons se_str (ses_cons se_str ses_nil)))) (se_tuple (ses_cons (e_name ok' (lx_comp rfl (by decide +kernel) (by decide +kernel)).toVX) (ses_cons (se_bin rfl ok' op_sub (se_bin rfl ok' op_mod (e_name ok' (lx_comp rfl (by decide +kernel) (by decide +kernel)).toVX) (se_bin rfl ok' op_add (e_name ok' (vx_comp hS rfl (by decide +kernel) rfl (by decide +kernel) (cl_lookup (by decide +kernel)) (by decide +kernel))) se_int)) se_int) ses_nil))) (se_tuple (ses_cons (e_name ok' (lx_comp rfl (by decide +kernel) (by decide +kernel)).toVX) (ses_cons (e_name ok' (lx_comp rfl (by decide +kernel) (by decide +kernel)).toVX) ses_nil))))⟩)))))
    sss_nil))
theorem ok_law_table {K : KB} {w : World} {base : Heap} (H : Env7 w K) : FnOk P7 w (KTop K) base H.law_table.a 1 F_law_table := by
  obtain ⟨qual, kV, doc, pm, an, cdv, ct, e⟩ := H.law_table.e
  have F := H.law_table.F
  rw [e] at F
  refine fn_ok (ps := ["count", "first", "second", "n"]) (rest := ["rows"]) ktop_p F.hf { body := rfl, clos := rfl, glob := rfl, bi := rfl, kind := rfl, gen := rfl, co := rfl, bind := fun vals h => by (obtain ⟨a, b, c, d, rfl⟩ := len4 h; rfl), nd := by decide +kernel, loc := show ∀ x ∈ (["count", "first", "second", "n"] : List Str), (fnScope P7 14).names.lookup x = some .local from by decide +kernel, cells := cells_of (names := (fnScope P7 14).names) (by decide +kernel) } (fun C ok hN hS hL hB => ?_)
  obtain ⟨L, hL1, hC, hP⟩ := hL
  subst hL1
  have hC : C.env.cells = cellsFrom (C.env.locals + 1) (fnScope P7 14).names [] := hC
  rw [hC] at hP
  subst hB
  simp only [List.cons_append, List.nil_append] at hN
  have hS : C.env.scope = fnScope P7 14 := hS
  have l_count : LX C 0 "count" := lx_local hN hS rfl (by decide +kernel) (by decide +kernel)
  have l_first : LX C 1 "first" := lx_local hN hS rfl (by decide +kernel) (by decide +kernel)
  have l_second : LX C 2 "second" := lx_local hN hS rfl (by decide +kernel) (by decide +kernel)
  have l_n : LX C 3 "n" := lx_local hN hS rfl (by decide +kernel) (by decide +kernel)
  have l_rows : LX C 4 "rows" := lx_local hN hS rfl (by decide +kernel) (by decide +kernel)
  exact (sss_cons (s_let ok l_rows (se_list (ses_cons (se_tuple (ses_cons se_str (ses_cons (e_name ok l_first.toVX) (ses_cons (e_name ok l_second.toVX) (ses_cons (se_bin rfl ok op_mod (e_name ok l_first.toVX) (se_bin rfl ok op_add (e_name ok l_n.toVX) se_int)) ses_nil))))) (ses_cons (se_tuple (ses_cons se_str (ses_cons se_int (ses_cons (e_name ok l_second.toVX) (ses_cons (se_bin rfl ok op_mod (e_name ok l_second.toVX) (se_bin rfl ok op_add (e_name ok l_n.toVX) se_int)) ses_nil))))) ses_nil))))
    (sss_cons (ss_ret (se_sliceTo (e_name ok l_rows.toVX) (e_name ok l_count.toVX)))
    sss_nil))
theorem ok_law_no_value {K : KB} {w : World} {base : Heap} (H : Env7 w K) : FnOk P7 w (KTop K) base H.law_no_value.a 1 F_law_no_value := by
  obtain ⟨qual, kV, doc, pm, an, cdv, ct, e⟩ := H.law_no_value.e
  have F := H.law_no_value.F
  rw [e] at F
  refine fn_ok (ps := ["name", "b"]) (rest := []) ktop_p F.hf { body := rfl, clos := rfl, glob := rfl, bi := rfl, kind := rfl, gen := rfl, co := rfl, bind := fun vals h => by (obtain ⟨a, b, rfl⟩ := len2' h; rfl), nd := by decide +kernel, loc := show ∀ x ∈ (["name", "b"] : List Str), (fnScope P7 15).names.lookup x = some .local from by decide +kernel, cells := cells_of (names := (fnScope P7 15).names) (by decide +kernel) } (fun C ok hN hS hL hB => ?_)
  obtain ⟨L, hL1, hC, hP⟩ := hL
  subst hL1
  have hC : C.env.cells = cellsFrom (C.env.locals + 1) (fnScope P7 15).names [] := hC
  rw [hC] at hP
  subst hB
  simp only [List.cons_append, List.nil_append] at hN
  have hS : C.env.scope = fnScope P7 15 := hS
  have l_name : LX C 0 "name" := lx_local hN hS rfl (by decide +kernel) (by decide +kernel)
  have l_b : LX C 1 "b" := lx_local hN hS rfl (by decide +kernel) (by decide +kernel)
  exact (sss_cons (ss_if (sb_cmp (cmp_in ok.room) (e_name ok l_name.toVX) (se_tuple (ses_cons se_str (ses_cons se_str ses_nil)))) (sss_cons (ss_ret (se_cmp (cmp_eq ok.room) (e_name ok l_b.toVX) se_int))
        sss_nil) sss_nil)
    (sss_cons (ss_ret se_bool)
    sss_nil))
theorem ok_law_value {K : KB} {w : World} {base : Heap} (H : Env7 w K) : FnOk P7 w (KTop K) base H.law_value.a 2 F_law_value := by
  obtain ⟨qual, kV, doc, pm, an, cdv, ct, e⟩ := H.law_value.e
  have F := H.law_value.F
  rw [e] at F
  refine fn_ok (ps := ["name", "a", "b"]) (rest := ["order"]) ktop_p F.hf { body := rfl, clos := rfl, glob := rfl, bi := rfl, kind := rfl, gen := rfl, co := rfl, bind := fun vals h => by (obtain ⟨a, b, c, rfl⟩ := len3 h; rfl), nd := by decide +kernel, loc := show ∀ x ∈ (["name", "a", "b"] : List Str), (fnScope P7 16).names.lookup x = some .local from by decide +kernel, cells := cells_of (names := (fnScope P7 16).names) (by decide +kernel) } (fun C ok hN hS hL hB => ?_)
  obtain ⟨L, hL1, hC, hP⟩ := hL
  subst hL1
  have hC : C.env.cells = cellsFrom (C.env.locals + 1) (fnScope P7 16).names [] := hC
  rw [hC] at hP
  subst hB
  simp only [List.cons_append, List.nil_append] at hN
  have hS : C.env.scope = fnScope P7 16 := hS
  have l_name : LX C 0 "name" := lx_local hN hS rfl (by decide +kernel) (by decide +kernel)
  have l_a : LX C 1 "a" := lx_local hN hS rfl (by decide +kernel) (by decide +kernel)
  have l_b : LX C 2 "b" := lx_local hN hS rfl (by decide +kernel) (by decide +kernel)
  have l_order : LX C 3 "order" := lx_local hN hS rfl (by decide +kernel) (by decide +kernel)
  have g_law_holds : C.env.kindOf "_law_holds" = some .globalImplicit := glb_of hS (by decide +kernel)
  exact (sss_cons (ss_if (sb_cmp (cmp_eq ok.room) (e_name ok l_name.toVX) se_str) (sss_cons (ss_ret (se_bin rfl ok op_add (e_name ok l_a.toVX) (e_name ok l_b.toVX)))
        sss_nil) sss_nil)
    (sss_cons (ss_if (sb_cmp (cmp_eq ok.room) (e_name ok l_name.toVX) se_str) (sss_cons (ss_ret (se_bin rfl ok op_sub (e_name ok l_a.toVX) (e_name ok l_b.toVX)))
        sss_nil) sss_nil)
    (sss_cons (ss_if (sb_cmp (cmp_eq ok.room) (e_name ok l_name.toVX) se_str) (sss_cons (ss_ret (se_bin rfl ok op_mul (e_name ok l_a.toVX) (e_name ok l_b.toVX)))
        sss_nil) sss_nil)
    (sss_cons (ss_if (sb_cmp (cmp_eq ok.room) (e_name ok l_name.toVX) se_str) (sss_cons (ss_ret (se_bin rfl ok op_div (e_name ok l_a.toVX) (e_name ok l_b.toVX)))
        sss_nil) sss_nil)
    (sss_cons (ss_if (sb_cmp (cmp_eq ok.room) (e_name ok l_name.toVX) se_str) (sss_cons (ss_ret (se_bin rfl ok op_mod (e_name ok l_a.toVX) (e_name ok l_b.toVX)))
        sss_nil) sss_nil)
    (sss_cons (s_let ok l_order se_int)
    (sss_cons (ss_if (sb_cmp (cmp_eq ok.room) (e_name ok l_a.toVX) (e_name ok l_b.toVX)) (sss_cons (s_let ok l_order se_int)
        sss_nil) (sss_cons (ss_if (sb_cmp (cmp_gt) (e_name ok l_a.toVX) (e_name ok l_b.toVX)) (sss_cons (s_let ok l_order se_int)
            sss_nil) sss_nil)
        sss_nil))
    (sss_cons (ss_ret (se_item (se_tab (sd_call0 ktop_p ok H.law_holds.F.glb H.law_holds.F.obj (ok_law_holds H) (by decide) g_law_holds) (e_name ok l_name.toVX)) (e_name ok l_order.toVX)))
    sss_nil))))))))
theorem ok_law_short {K : KB} {w : World} {base : Heap} (H : Env7 w K) : FnOk P7 w (KTop K) base H.law_short.a 3 F_law_short := by
  obtain ⟨qual, kV, doc, pm, an, cdv, ct, e⟩ := H.law_short.e
  have F := H.law_short.F
  rw [e] at F
  refine fn_ok (ps := ["code", "marks"]) (rest := ["out", "spots", "marked", "place", "op", "arg", "low", "top", "flip", "due", "label"]) ktop_p F.hf { body := rfl, clos := rfl, glob := rfl, bi := rfl, kind := rfl, gen := rfl, co := rfl, bind := fun vals h => by (obtain ⟨a, b, rfl⟩ := len2' h; rfl), nd := by decide +kernel, loc := show ∀ x ∈ (["code", "marks"] : List Str), (fnScope P7 17).names.lookup x = some .local from by decide +kernel, cells := cells_of (names := (fnScope P7 17).names) (by decide +kernel) } (fun C ok hN hS hL hB => ?_)
  obtain ⟨L, hL1, hC, hP⟩ := hL
  subst hL1
  have hC : C.env.cells = cellsFrom (C.env.locals + 1) (fnScope P7 17).names [] := hC
  rw [hC] at hP
  subst hB
  simp only [List.cons_append, List.nil_append] at hN
  have hS : C.env.scope = fnScope P7 17 := hS
  have l_code : LX C 0 "code" := lx_local hN hS rfl (by decide +kernel) (by decide +kernel)
  have l_marks : LX C 1 "marks" := lx_local hN hS rfl (by decide +kernel) (by decide +kernel)
  have l_out : LX C 2 "out" := lx_local hN hS rfl (by decide +kernel) (by decide +kernel)
  have l_spots : LX C 3 "spots" := lx_local hN hS rfl (by decide +kernel) (by decide +kernel)
  have l_marked : LX C 4 "marked" := lx_local hN hS rfl (by decide +kernel) (by decide +kernel)
  have l_place : LX C 5 "place" := lx_local hN hS rfl (by decide +kernel) (by decide +kernel)
  have l_op : LX C 6 "op" := lx_local hN hS rfl (by decide +kernel) (by decide +kernel)
  have l_arg : LX C 7 "arg" := lx_local hN hS rfl (by decide +kernel) (by decide +kernel)
  have l_low : LX C 8 "low" := lx_local hN hS rfl (by decide +kernel) (by decide +kernel)
  have l_top : LX C 9 "top" := lx_local hN hS rfl (by decide +kernel) (by decide +kernel)
  have l_flip : LX C 10 "flip" := lx_local hN hS rfl (by decide +kernel) (by decide +kernel)
  have l_due : LX C 11 "due" := lx_local hN hS rfl (by decide +kernel) (by decide +kernel)
  have l_label : LX C 12 "label" := lx_local hN hS rfl (by decide +kernel) (by decide +kernel)
  have g_range : C.env.kindOf "range" = some .globalImplicit := glb_of hS (by decide +kernel)
  have g_len : C.env.kindOf "len" = some .globalImplicit := glb_of hS (by decide +kernel)
  have g_law_ops : C.env.kindOf "_law_ops" = some .globalImplicit := glb_of hS (by decide +kernel)
  have g_law_no_value : C.env.kindOf "_law_no_value" = some .globalImplicit := glb_of hS (by decide +kernel)
  have g_law_value : C.env.kindOf "_law_value" = some .globalImplicit := glb_of hS (by decide +kernel)
  exact (sss_cons (s_let ok l_out (se_list ses_nil))
    (sss_cons (s_own ok l_spots seo_nil)
    (sss_cons (s_let ok l_marked se_bool)
    (sss_cons (ss_for ok (si_range1 ok H.b_range (se_call1 ok H.b_len (.inl ⟨_, rfl⟩) fn_len (e_name ok l_code.toVX) g_len) g_range) (t_name ok l_place) (sss_cons (ss_unpack ok (nm_cons l_op (nm_cons l_arg .nil)) (se_item (e_name ok l_code.toVX) (e_name ok l_place.toVX)))
        (sss_cons (s_append ok l_spots.toVX (se_call1 ok H.b_len (.inl ⟨_, rfl⟩) fn_len (e_name ok l_out.toVX) g_len))
        (sss_cons (ss_if (sb_cmp (cmp_in ok.room) (e_name ok l_place.toVX) (e_name ok l_marks.toVX)) (sss_cons (s_let ok l_marked se_bool)
            sss_nil) sss_nil)
        (sss_cons (ss_if (sb_cmp (cmp_eq ok.room) (e_name ok l_op.toVX) se_str) (sss_cons ss_cont
            sss_nil) sss_nil)
        (sss_cons (ss_unpack ok (nm_cons l_low (nm_cons l_top .nil)) (se_sliceFrom (se_bin rfl ok op_add (se_list (ses_cons (se_tuple (ses_cons se_str (ses_cons se_int (ses_cons se_bool ses_nil)))) (ses_cons (se_tuple (ses_cons se_str (ses_cons se_int (ses_cons se_bool ses_nil)))) ses_nil))) (e_name ok l_out.toVX)) (se_neg se_int)))
        (sss_cons (ss_if (sb_op (sbs_or (sb_cmp (cmp_ne ok.room) (se_item (e_name ok l_top.toVX) se_int) se_str) (sbs_or (b_name ok l_marked.toVX) sbs_or_nil))) (sss_cons (s_let ok l_out (se_bin rfl ok op_add (e_name ok l_out.toVX) (se_list (ses_cons (se_tuple (ses_cons (e_name ok l_op.toVX) (ses_cons (e_name ok l_arg.toVX) (ses_cons (e_name ok l_marked.toVX) ses_nil)))) ses_nil))))
            sss_nil) (sss_cons (ss_if (sb_cmp (cmp_eq ok.room) (e_name ok l_op.toVX) se_str) (sss_cons (s_let ok l_out (se_bin rfl ok op_add (se_sliceTo (e_name ok l_out.toVX) (se_neg se_int)) (se_list (ses_cons (se_tuple (ses_cons se_str (ses_cons (se_neg (se_item (e_name ok l_top.toVX) se_int)) (ses_cons (se_item (e_name ok l_top.toVX) se_int) ses_nil)))) ses_nil))))
                sss_nil) (sss_cons (ss_if (sb_cmp (cmp_eq ok.room) (e_name ok l_op.toVX) se_str) (sss_cons (s_let ok l_flip se_int)
                    (sss_cons (ss_if (sb_cmp (cmp_eq ok.room) (se_item (e_name ok l_top.toVX) se_int) se_int) (sss_cons (s_let ok l_flip se_int)
                        sss_nil) sss_nil)
                    (sss_cons (s_let ok l_out (se_bin rfl ok op_add (se_sliceTo (e_name ok l_out.toVX) (se_neg se_int)) (se_list (ses_cons (se_tuple (ses_cons se_str (ses_cons (e_name ok l_flip.toVX) (ses_cons (se_item (e_name ok l_top.toVX) se_int) ses_nil)))) ses_nil))))
                    sss_nil))) (sss_cons (ss_if (sb_op (sbs_and (sb_cmp (cmp_in ok.room) (e_name ok l_op.toVX) (se_glob ok H.c_law_ops g_law_ops)) (sbs_and (sb_cmp (cmp_eq ok.room) (se_item (e_name ok l_low.toVX) se_int) se_str) (sbs_and (sb_not (sb_gen (se_item (e_name ok l_top.toVX) se_int))) (sbs_and (sb_not (sb_gen (se_call ktop_p ok H.law_no_value.F.glb H.law_no_value.F.obj (ok_law_no_value H) (by decide) (sas_cons (sa_val (e_name ok l_op.toVX)) (sas_cons (sa_val (se_item (e_name ok l_top.toVX) se_int)) sas_nil)) g_law_no_value))) sbs_and_nil))))) (sss_cons (s_let ok l_out (se_bin rfl ok op_add (se_sliceTo (e_name ok l_out.toVX) (se_neg se_int)) (se_list (ses_cons (se_tuple (ses_cons se_str (ses_cons (se_call ktop_p ok H.law_value.F.glb H.law_value.F.obj (ok_law_value H) (by decide) (sas_cons (sa_val (e_name ok l_op.toVX)) (sas_cons (sa_val (se_item (e_name ok l_low.toVX) se_int)) (sas_cons (sa_val (se_item (e_name ok l_top.toVX) se_int)) sas_nil))) g_law_value) (ses_cons (se_item (e_name ok l_low.toVX) se_int) ses_nil)))) ses_nil))))
                        sss_nil) (sss_cons (s_let ok l_out (se_bin rfl ok op_add (e_name ok l_out.toVX) (se_list (ses_cons (se_tuple (ses_cons (e_name ok l_op.toVX) (ses_cons (e_name ok l_arg.toVX) (ses_cons se_bool ses_nil)))) ses_nil))))
                        sss_nil))
                    sss_nil))
                sss_nil))
            sss_nil))
        (sss_cons (s_let ok l_marked se_bool)
        sss_nil))))))))
    (sss_cons (s_append ok l_spots.toVX (se_call1 ok H.b_len (.inl ⟨_, rfl⟩) fn_len (e_name ok l_out.toVX) g_len))
    (s_freeze ok l_spots.toVX
    (sss_cons (s_own ok l_due seo_nil)
    (sss_cons (ss_for ok (si_val (e_name ok l_out.toVX)) (st_tuple ok (nm_cons l_op (nm_cons l_arg (nm_cons l_label .nil)))) (sss_cons (ss_if (sb_op (sbs_and (sb_cmp (cmp_in ok.room) (e_name ok l_op.toVX) (se_tuple (ses_cons se_str (ses_cons se_str ses_nil)))) (sbs_and (sb_chain se_int (e_name ok l_arg.toVX) (se_call1 ok H.b_len (.inl ⟨_, rfl⟩) fn_len (e_name ok l_code.toVX) g_len)) sbs_and_nil))) (sss_cons (s_append ok l_due.toVX (se_tuple (ses_cons (e_name ok l_op.toVX) (ses_cons (se_item (e_name ok l_spots.toVX) (e_name ok l_arg.toVX)) ses_nil))))
            sss_nil) (sss_cons (s_append ok l_due.toVX (se_tuple (ses_cons (e_name ok l_op.toVX) (ses_cons (e_name ok l_arg.toVX) ses_nil))))
            sss_nil))
        sss_nil))
    (s_freeze ok l_due.toVX
    (sss_cons (ss_ret (se_tuple (ses_cons (e_name ok l_due.toVX) (ses_cons (e_name ok l_spots.toVX) ses_nil))))
    sss_nil))))))))))
end Mine
end
section
set_option maxRecDepth 100000
set_option maxHeartbeats 1000000
namespace Mine
open PySem PySem.W PySem.Calls PyProof.Rows
theorem raise_apply_binary {K : KB} {w : World} {base : Heap} (H : Env7 w K) : FnRaise P7 w (KTop K) base H.apply_binary.a 1 H.a_err (fun ds => raiseP ds = true) := by
  obtain ⟨qual, kV, doc, pm, an, cdv, ct, e⟩ := H.apply_binary.e
  have F := H.apply_binary.F
  rw [e] at F
  refine fn_raise (ps := ["op", "a", "b"]) (rest := ["holds"]) ktop_p F.hf { body := rfl, clos := rfl, glob := rfl, bi := rfl, kind := rfl, gen := rfl, co := rfl, bind := fun vals h => by (obtain ⟨a, b, c, rfl⟩ := len3 h; rfl), nd := by decide +kernel, loc := show ∀ x ∈ (["op", "a", "b"] : List Str), (fnScope P7 3).names.lookup x = some .local from by decide +kernel, cells := cells_of (names := (fnScope P7 3).names) (by decide +kernel) } (fun ds h => ?_) (fun C ok hN hS hB => ?_)
  · obtain ⟨op, a, _, rfl⟩ := raiseP_inv h; rfl
  simp only [List.cons_append, List.nil_append] at hN
  have hS : C.env.scope = fnScope P7 3 := hS
  have l_op : LX C 0 "op" := lx_local hN hS rfl (by decide +kernel) (by decide +kernel)
  have l_a : LX C 1 "a" := lx_local hN hS rfl (by decide +kernel) (by decide +kernel)
  have l_b : LX C 2 "b" := lx_local hN hS rfl (by decide +kernel) (by decide +kernel)
  have g_RunError : C.env.kindOf "RunError" = some .globalImplicit := glb_of hS (by decide +kernel)
  have hk : ∀ σ, (∃ ds, raiseP ds = true ∧ σ = ds ++ List.replicate (["holds"] : List Str).length Slot.no) → ∃ (op : Str) (a : Int), (op = "//" ∨ op = "%") ∧ σ = [.val (.str op), .val (.int a), .val (.int 0), .no] := by
    rintro σ ⟨ds, h, rfl⟩
    obtain ⟨op, a, ho, rfl⟩ := raiseP_inv h
    exact ⟨op, a, ho, rfl⟩
  have f1 : ∀ x : Str, (x = "+" ∨ x = "-" ∨ x = "*") → ∀ σ, (∃ ds, raiseP ds = true ∧ σ = ds ++ List.replicate (["holds"] : List Str).length Slot.no) → b2 vEq (dName 0) (dLit (.str x)) σ = some false := by
    intro x hx σ h
    obtain ⟨op, a, ho, rfl⟩ := hk σ h
    show vEq (.str op) (.str x) = some false
    rcases ho with rfl | rfl <;> rcases hx with rfl | rfl | rfl <;> decide +kernel
  have f2 : ∀ σ, (∃ ds, raiseP ds = true ∧ σ = ds ++ List.replicate (["holds"] : List Str).length Slot.no) → b2 vIn (dName 0) (dTup [(dLit (.str "//")), (dLit (.str "%"))]) σ = some true := by
    intro σ h
    obtain ⟨op, a, ho, rfl⟩ := hk σ h
    show vIn (.str op) (.tuple [.str "//", .str "%"]) = some true
    rcases ho with rfl | rfl <;> decide +kernel
  have f3 : ∀ σ, (∃ ds, raiseP ds = true ∧ σ = ds ++ List.replicate (["holds"] : List Str).length Slot.no) → b2 vEq (dName 2) (dLit (.int 0)) σ = some true := by
    intro σ h
    obtain ⟨op, a, ho, rfl⟩ := hk σ h
    show vEq (.int 0) (.int 0) = some true
    decide +kernel
  exact sr_skip (sb_cmp (cmp_eq ok.room) (e_name ok l_op.toVX) se_str) (f1 _ (.inl rfl))
    (sr_skip (sb_cmp (cmp_eq ok.room) (e_name ok l_op.toVX) se_str) (f1 _ (.inr (.inl rfl)))
    (sr_skip (sb_cmp (cmp_eq ok.room) (e_name ok l_op.toVX) se_str) (f1 _ (.inr (.inr rfl)))
    (sr_take (sb_cmp (cmp_in ok.room) (e_name ok l_op.toVX) (se_tuple (ses_cons se_str (ses_cons se_str ses_nil)))) f2
    (sr_take (sb_cmp (cmp_eq ok.room) (e_name ok l_b.toVX) se_int) f3
    (sr_raise ok (errC_of H.n_err) g_RunError)))))
theorem ok_law_operator_right {K : KB} {w : World} {base : Heap} (H : Env7 w K) : FnT P7 w (KTop K) base H.law_operator_right.a 3 F_law_operator_right := by
  obtain ⟨qual, kV, doc, pm, an, cdv, ct, e⟩ := H.law_operator_right.e
  have F := H.law_operator_right.F
  rw [e] at F
  have tail : ∀ C : Cx, C.Ok 2 (KTop K) → C.names = (["k", "a", "b", "got", "refused"] : List Str) → C.env.scope = fnScope P7 18 → C.base = base → SSs P7 w C ((fnBody P7 18).drop 3) (sSeq [sIf (bOf (dCall F_law_no_value [(aVal (d2 vItem (dLit opsD) (dName 0))), (aVal (dName 2))])) (sSeq [sRet (dName 4)]) (sSeq []),
      sIf (bOr [(bOf (dName 4)), (bNot (bType "int" (dName 3)))]) (sSeq [sRet (dLit (.bool false))]) (sSeq []),
      sRet (bVal (b2 vEq (dName 3) (dCall F_law_value [(aVal (d2 vItem (dLit opsD) (dName 0))), (aVal (dName 1)), (aVal (dName 2))])))]) := by
    intro C ok hN hS hB
    subst hB
    have l_k : LX C 0 "k" := lx_local hN hS rfl (by decide +kernel) (by decide +kernel)
    have l_a : LX C 1 "a" := lx_local hN hS rfl (by decide +kernel) (by decide +kernel)
    have l_b : LX C 2 "b" := lx_local hN hS rfl (by decide +kernel) (by decide +kernel)
    have l_got : LX C 3 "got" := lx_local hN hS rfl (by decide +kernel) (by decide +kernel)
    have l_refused : LX C 4 "refused" := lx_local hN hS rfl (by decide +kernel) (by decide +kernel)
    have g_apply_binary : C.env.kindOf "apply_binary" = some .globalImplicit := glb_of hS (by decide +kernel)
    have g_law_signs : C.env.kindOf "_law_signs" = some .globalImplicit := glb_of hS (by decide +kernel)
    have g_RunError : C.env.kindOf "RunError" = some .globalImplicit := glb_of hS (by decide +kernel)
    have g_law_no_value : C.env.kindOf "_law_no_value" = some .globalImplicit := glb_of hS (by decide +kernel)
    have g_law_ops : C.env.kindOf "_law_ops" = some .globalImplicit := glb_of hS (by decide +kernel)
    have g_type : C.env.kindOf "type" = some .globalImplicit := glb_of hS (by decide +kernel)
    have g_int : C.env.kindOf "int" = some .globalImplicit := glb_of hS (by decide +kernel)
    have g_law_value : C.env.kindOf "_law_value" = some .globalImplicit := glb_of hS (by decide +kernel)
    exact (sss_cons (ss_if (sb_gen (se_call ktop_p ok H.law_no_value.F.glb H.law_no_value.F.obj (ok_law_no_value H) (by decide) (sas_cons (sa_val (se_item (se_glob ok H.c_law_ops g_law_ops) (e_name ok l_k.toVX))) (sas_cons (sa_val (e_name ok l_b.toVX)) sas_nil)) g_law_no_value)) (sss_cons (ss_ret (e_name ok l_refused.toVX))
        sss_nil) sss_nil)
      (sss_cons (ss_if (sb_op (sbs_or (b_name ok l_refused.toVX) (sbs_or (sb_not (sb_type ok H.b_type H.b_int (e_name ok l_got.toVX) g_type g_int)) sbs_or_nil))) (sss_cons (ss_ret se_bool)
        sss_nil) sss_nil)
      (sss_cons (ss_ret (se_cmp (cmp_eq ok.room) (e_name ok l_got.toVX) (se_call ktop_p ok H.law_value.F.glb H.law_value.F.obj (ok_law_value H) (by decide) (sas_cons (sa_val (se_item (se_glob ok H.c_law_ops g_law_ops) (e_name ok l_k.toVX))) (sas_cons (sa_val (e_name ok l_a.toVX)) (sas_cons (sa_val (e_name ok l_b.toVX)) sas_nil))) g_law_value)))
      sss_nil)))
  refine fn_turn (ps := ["k", "a", "b"]) (rest := ["got", "refused"]) ktop_p F.hf { body := rfl, clos := rfl, glob := rfl, bi := rfl, kind := rfl, gen := rfl, co := rfl, bind := fun vals h => by (obtain ⟨a, b, c, rfl⟩ := len3 h; rfl), nd := by decide +kernel, loc := show ∀ x ∈ (["k", "a", "b"] : List Str), (fnScope P7 18).names.lookup x = some .local from by decide +kernel, cells := cells_of (names := (fnScope P7 18).names) (by decide +kernel) } (fun C outer ok hN hS hL hB hF hFr hX => ?_)
  obtain ⟨L, hL1, hC, hP⟩ := hL
  subst hL1
  have hC : C.env.cells = cellsFrom (C.env.locals + 1) (fnScope P7 18).names [] := hC
  rw [hC] at hP
  subst hB
  simp only [List.cons_append, List.nil_append] at hN
  have hS : C.env.scope = fnScope P7 18 := hS
  have hC0 : C.env.cells = [] := hC.trans (by rfl)
  have l_k : LX C 0 "k" := lx_local hN hS rfl (by decide +kernel) (by decide +kernel)
  have l_a : LX C 1 "a" := lx_local hN hS rfl (by decide +kernel) (by decide +kernel)
  have l_b : LX C 2 "b" := lx_local hN hS rfl (by decide +kernel) (by decide +kernel)
  have l_got : LX C 3 "got" := lx_local hN hS rfl (by decide +kernel) (by decide +kernel)
  have l_refused : LX C 4 "refused" := lx_local hN hS rfl (by decide +kernel) (by decide +kernel)
  have g_apply_binary : C.env.kindOf "apply_binary" = some .globalImplicit := glb_of hS (by decide +kernel)
  have g_law_signs : C.env.kindOf "_law_signs" = some .globalImplicit := glb_of hS (by decide +kernel)
  have g_RunError : C.env.kindOf "RunError" = some .globalImplicit := glb_of hS (by decide +kernel)
  have g_law_no_value : C.env.kindOf "_law_no_value" = some .globalImplicit := glb_of hS (by decide +kernel)
  have g_law_ops : C.env.kindOf "_law_ops" = some .globalImplicit := glb_of hS (by decide +kernel)
  have g_type : C.env.kindOf "type" = some .globalImplicit := glb_of hS (by decide +kernel)
  have g_int : C.env.kindOf "int" = some .globalImplicit := glb_of hS (by decide +kernel)
  have g_law_value : C.env.kindOf "_law_value" = some .globalImplicit := glb_of hS (by decide +kernel)
  exact (su_cons (s_let ok l_got se_none)
    (su_cons (s_let ok l_refused se_bool)
    (su_try ktop_p ok ⟨hF, hFr, hC0, hX⟩ (errC_of H.n_err) g_RunError l_refused l_got (sre_call ktop_p ok H.apply_binary.F.glb H.apply_binary.F.obj (raise_apply_binary H) (by decide) (sas_cons (sa_val (se_item (se_glob ok H.c_law_signs g_law_signs) (e_name ok l_k.toVX))) (sas_cons (sa_val (e_name ok l_a.toVX)) (sas_cons (sa_val (e_name ok l_b.toVX)) sas_nil))) g_apply_binary) (se_call ktop_p ok H.apply_binary.F.glb H.apply_binary.F.obj (ok_apply_binary H) (by decide) (sas_cons (sa_val (se_item (se_glob ok H.c_law_signs g_law_signs) (e_name ok l_k.toVX))) (sas_cons (sa_val (e_name ok l_a.toVX)) (sas_cons (sa_val (e_name ok l_b.toVX)) sas_nil))) g_apply_binary) (fun s0' ok' => su_of (tail _ ok' hN hS rfl)))))
theorem ok_law {K : KB} {w : World} {base : Heap} (H : Env7 w K) : FnT P7 w (KTop K) base H.law.a 4 F_law := by
  obtain ⟨qual, kV, doc, pm, an, cdv, ct, e⟩ := H.law.e
  have F := H.law.F
  rw [e] at F
  refine fn_turn (ps := ["script"]) (rest := ["size", "rows", "raw", "i", "kind", "x", "y", "n", "code", "kept", "table", "kept_table", "marks", "due", "spots", "due_table", "once", "answer", "better", "moved", "op", "arg"]) ktop_p F.hf { body := rfl, clos := rfl, glob := rfl, bi := rfl, kind := rfl, gen := rfl, co := rfl, bind := fun vals h => by (obtain ⟨a, rfl⟩ := len1 h; rfl), nd := by decide +kernel, loc := show ∀ x ∈ (["script"] : List Str), (fnScope P7 19).names.lookup x = some .local from by decide +kernel, cells := cells_of (names := (fnScope P7 19).names) (by decide +kernel) } (fun C outer ok hN hS hL hB hF hFr hX => ?_)
  obtain ⟨L, hL1, hC, hP⟩ := hL
  subst hL1
  have hC : C.env.cells = cellsFrom (C.env.locals + 1) (fnScope P7 19).names [] := hC
  rw [hC] at hP
  subst hB
  simp only [List.cons_append, List.nil_append] at hN
  have hS : C.env.scope = fnScope P7 19 := hS
  have l_script : LX C 0 "script" := lx_local hN hS rfl (by decide +kernel) (by decide +kernel)
  have l_size : LX C 1 "size" := lx_local hN hS rfl (by decide +kernel) (by decide +kernel)
  have l_rows : LX C 2 "rows" := lx_local hN hS rfl (by decide +kernel) (by decide +kernel)
  have l_raw : LX C 3 "raw" := lx_local hN hS rfl (by decide +kernel) (by decide +kernel)
  have l_i : LX C 4 "i" := lx_local hN hS rfl (by decide +kernel) (by decide +kernel)
  have l_kind : LX C 5 "kind" := lx_local hN hS rfl (by decide +kernel) (by decide +kernel)
  have l_x : LX C 6 "x" := lx_local hN hS rfl (by decide +kernel) (by decide +kernel)
  have l_y : LX C 7 "y" := lx_local hN hS rfl (by decide +kernel) (by decide +kernel)
  have l_n : LX C 8 "n" := lx_local hN hS rfl (by decide +kernel) (by decide +kernel)
  have l_code : LX C 9 "code" := lx_local hN hS rfl (by decide +kernel) (by decide +kernel)
  have l_kept : LX C 10 "kept" := lx_local hN hS rfl (by decide +kernel) (by decide +kernel)
  have l_table : LX C 11 "table" := lx_local hN hS rfl (by decide +kernel) (by decide +kernel)
  have l_kept_table : LX C 12 "kept_table" := lx_local hN hS rfl (by decide +kernel) (by decide +kernel)
  have l_marks : LX C 13 "marks" := lx_cell hN hS hC hP rfl (by decide +kernel) (by decide +kernel) rfl
  have l_due : LX C 14 "due" := lx_local hN hS rfl (by decide +kernel) (by decide +kernel)
  have l_spots : LX C 15 "spots" := lx_cell hN hS hC hP rfl (by decide +kernel) (by decide +kernel) rfl
  have l_due_table : LX C 16 "due_table" := lx_local hN hS rfl (by decide +kernel) (by decide +kernel)
  have l_once : LX C 17 "once" := lx_local hN hS rfl (by decide +kernel) (by decide +kernel)
  have l_answer : LX C 18 "answer" := lx_local hN hS rfl (by decide +kernel) (by decide +kernel)
  have l_better : LX C 19 "better" := lx_local hN hS rfl (by decide +kernel) (by decide +kernel)
  have l_moved : LX C 20 "moved" := lx_local hN hS rfl (by decide +kernel) (by decide +kernel)
  have l_op : LX C 21 "op" := lx_local hN hS rfl (by decide +kernel) (by decide +kernel)
  have l_arg : LX C 22 "arg" := lx_local hN hS rfl (by decide +kernel) (by decide +kernel)
  have g_len : C.env.kindOf "len" = some .globalImplicit := glb_of hS (by decide +kernel)
  have g_range : C.env.kindOf "range" = some .globalImplicit := glb_of hS (by decide +kernel)
  have g_law_chunk : C.env.kindOf "_law_chunk" = some .globalImplicit := glb_of hS (by decide +kernel)
  have g_law_code : C.env.kindOf "_law_code" = some .globalImplicit := glb_of hS (by decide +kernel)
  have g_law_table : C.env.kindOf "_law_table" = some .globalImplicit := glb_of hS (by decide +kernel)
  have g_law_short : C.env.kindOf "_law_short" = some .globalImplicit := glb_of hS (by decide +kernel)
  have g_jump_targets : C.env.kindOf "jump_targets" = some .globalImplicit := glb_of hS (by decide +kernel)
  have g_fold_once : C.env.kindOf "fold_once" = some .globalImplicit := glb_of hS (by decide +kernel)
  have g_optimize : C.env.kindOf "optimize" = some .globalImplicit := glb_of hS (by decide +kernel)
  have g_type : C.env.kindOf "type" = some .globalImplicit := glb_of hS (by decide +kernel)
  have g_tuple : C.env.kindOf "tuple" = some .globalImplicit := glb_of hS (by decide +kernel)
  have g_list : C.env.kindOf "list" = some .globalImplicit := glb_of hS (by decide +kernel)
  have g_int : C.env.kindOf "int" = some .globalImplicit := glb_of hS (by decide +kernel)
  have g_law_operator_right : C.env.kindOf "_law_operator_right" = some .globalImplicit := glb_of hS (by decide +kernel)
  exact (su_cons (ss_if (sb_cmp (cmp_lt) (se_call1 ok H.b_len (.inl ⟨_, rfl⟩) fn_len (e_name ok l_script.toVX) g_len) se_int) (sss_cons (ss_ret se_bool)
        sss_nil) sss_nil)
    (su_cons (s_let ok l_size (se_bin rfl ok op_mod (se_item (e_name ok l_script.toVX) se_int) se_int))
    (su_cons (s_let ok l_rows (se_tuple (ses_cons (se_tuple (ses_cons (se_item (e_name ok l_script.toVX) se_int) (ses_cons (se_item (e_name ok l_script.toVX) se_int) (ses_cons (se_item (e_name ok l_script.toVX) se_int) ses_nil)))) (ses_cons (se_tuple (ses_cons (se_item (e_name ok l_script.toVX) se_int) (ses_cons (se_item (e_name ok l_script.toVX) se_int) (ses_cons (se_item (e_name ok l_script.toVX) se_int) ses_nil)))) (ses_cons (se_tuple (ses_cons (se_item (e_name ok l_script.toVX) se_int) (ses_cons (se_item (e_name ok l_script.toVX) se_int) (ses_cons (se_item (e_name ok l_script.toVX) se_int) ses_nil)))) (ses_cons (se_tuple (ses_cons (se_item (e_name ok l_script.toVX) se_int) (ses_cons (se_item (e_name ok l_script.toVX) se_int) (ses_cons (se_item (e_name ok l_script.toVX) se_int) ses_nil)))) (ses_cons (se_tuple (ses_cons (se_item (e_name ok l_script.toVX) se_int) (ses_cons (se_item (e_name ok l_script.toVX) se_int) (ses_cons (se_item (e_name ok l_script.toVX) se_int) ses_nil)))) (ses_cons (se_tuple (ses_cons (se_item (e_name ok l_script.toVX) se_int) (ses_cons (se_item (e_name ok l_script.toVX) se_int) (ses_cons (se_item (e_name ok l_script.toVX) se_int) ses_nil)))) ses_nil))))))))
    (su_cons (s_let ok l_raw (se_list ses_nil))
    (su_cons (ss_for ok (si_range1 ok H.b_range se_int g_range) (t_name ok l_i) (sss_cons (ss_if (sb_cmp (cmp_lt) (e_name ok l_i.toVX) (e_name ok l_size.toVX)) (sss_cons (ss_unpack ok (nm_cons l_kind (nm_cons l_x (nm_cons l_y .nil))) (se_item (e_name ok l_rows.toVX) (e_name ok l_i.toVX)))
            (sss_cons (s_let ok l_raw (se_bin rfl ok op_add (e_name ok l_raw.toVX) (se_call ktop_p ok H.law_chunk.F.glb H.law_chunk.F.obj (ok_law_chunk H) (by decide) (sas_cons (sa_val (se_bin rfl ok op_mod (e_name ok l_kind.toVX) se_int)) (sas_cons (sa_val (e_name ok l_x.toVX)) (sas_cons (sa_val (e_name ok l_y.toVX)) sas_nil))) g_law_chunk)))
            sss_nil)) sss_nil)
        sss_nil))
    (su_cons (s_let ok l_n (se_call1 ok H.b_len (.inl ⟨_, rfl⟩) fn_len (e_name ok l_raw.toVX) g_len))
    (su_cons (s_let ok l_code (se_call ktop_p ok H.law_code.F.glb H.law_code.F.obj (ok_law_code H) (by decide) (sas_cons (sa_val (e_name ok l_raw.toVX)) sas_nil) g_law_code))
    (su_cons (s_let ok l_kept (se_call ktop_p ok H.law_code.F.glb H.law_code.F.obj (ok_law_code H) (by decide) (sas_cons (sa_val (e_name ok l_raw.toVX)) sas_nil) g_law_code))
    (su_cons (s_let ok l_table (se_call ktop_p ok H.law_table.F.glb H.law_table.F.obj (ok_law_table H) (by decide) (sas_cons (sa_val (se_bin rfl ok op_mod (se_item (e_name ok l_script.toVX) se_int) se_int)) (sas_cons (sa_val (se_item (e_name ok l_script.toVX) se_int)) (sas_cons (sa_val (se_item (e_name ok l_script.toVX) se_int)) (sas_cons (sa_val (e_name ok l_n.toVX)) sas_nil)))) g_law_table))
    (su_cons (s_let ok l_kept_table (se_call ktop_p ok H.law_table.F.glb H.law_table.F.obj (ok_law_table H) (by decide) (sas_cons (sa_val (se_bin rfl ok op_mod (se_item (e_name ok l_script.toVX) se_int) se_int)) (sas_cons (sa_val (se_item (e_name ok l_script.toVX) se_int)) (sas_cons (sa_val (se_item (e_name ok l_script.toVX) se_int)) (sas_cons (sa_val (e_name ok l_n.toVX)) sas_nil)))) g_law_table))
    (su_cons (s_let ok l_marks (se_bin rfl ok op_add (se_fresh (seo_comp ktop_p ok (comp0 ["op", "arg"] rfl (by decide +kernel) (by decide +kernel) (tgt_unpack (by decide)) (si_val (e_name ok l_kept.toVX)) (fun L' X' s' ok' => ⟨(st_tuple ok' (nm_cons (lx_comp rfl (by decide +kernel) (by decide +kernel)) (nm_cons (lx_comp rfl (by decide +kernel) (by decide +kernel)) .nil))), (sts_one (sb_cmp (cmp_in ok'.room) (e_name ok' (lx_comp rfl (by decide +kernel) (by decide +kernel)).toVX) (se_tuple (ses_cons se_str (ses_cons se_str ses_nil))))), (e_name ok' (lx_comp rfl (by decide +kernel) (by decide +kernel)).toVX)⟩)))) (se_fresh (seo_comp ktop_p ok (comp0 ["row"] rfl (by decide +kernel) (by decide +kernel) (tgt_one (by decide)) (si_val (e_name ok l_kept_table.toVX)) (fun L' X' s' ok' => ⟨(t_name ok' (lx_comp rfl (by decide +kernel) (by decide +kernel))), sts_nil, (se_item (e_name ok' (lx_comp rfl (by decide +kernel) (by decide +kernel)).toVX) se_int)⟩))))))
    (su_cons (ss_unpack ok (nm_cons l_due (nm_cons l_spots .nil)) (se_call ktop_p ok H.law_short.F.glb H.law_short.F.obj (ok_law_short H) (by decide) (sas_cons (sa_val (e_name ok l_kept.toVX)) (sas_cons (sa_val (e_name ok l_marks.toVX)) sas_nil)) g_law_short))
    (su_cons (ss_compLet ktop_p ok l_due_table.n l_due_table.s (compC ["name", "params", "slots", "entry", "spots"] ["spots"] hS rfl rfl (by decide +kernel) (by decide +kernel) (by decide +kernel) (fun x hx => by simp only [List.mem_cons, List.not_mem_nil, or_false] at hx; subst hx; rw [hC]; rfl) (by decide +kernel) (by decide +kernel) (seen_of hN (by decide +kernel)) (tgt_unpack (by decide)) (si_val (e_name ok l_kept_table.toVX)) (fun L' X' s' ok' => ⟨(st_tuple ok' (nm_cons (lx_comp rfl (by decide +kernel) (by decide +kernel)) (nm_cons (lx_comp rfl (by decide +kernel) (by decide +kernel)) (nm_cons (lx_comp rfl (by decide +kernel) (by decide +kernel)) (nm_cons (lx_comp rfl (by decide +kernel) (by decide +kernel)) .nil))))), sts_nil, (se_tuple (ses_cons (e_name ok' (lx_comp rfl (by decide +kernel) (by decide +kernel)).toVX) (ses_cons (e_name ok' (lx_comp rfl (by decide +kernel) (by decide +kernel)).toVX) (ses_cons (e_name ok' (lx_comp rfl (by decide +kernel) (by decide +kernel)).toVX) (ses_cons (se_item (e_name ok' (vx_comp hS rfl (by decide +kernel) rfl (by decide +kernel) (cl_lookup (by decide +kernel)) (by decide +kernel))) (e_name ok' (lx_comp rfl (by decide +kernel) (by decide +kernel)).toVX)) ses_nil)))))⟩)) (swaps_true (i := 0) ok hS (by decide +kernel) rfl (by decide +kernel)))
    (su_cons (ss_if (sb_cmp (cmp_ne ok.room) (se_call ktop_p ok H.jump_targets.F.glb H.jump_targets.F.obj (ok_jump_targets H) (by decide) (sas_cons (sa_val (e_name ok l_code.toVX)) (sas_cons (sa_val (e_name ok l_table.toVX)) sas_nil)) g_jump_targets) (se_fresh (seo_comp ktop_p ok (compC ["a", "marks"] ["marks"] hS rfl rfl (by decide +kernel) (by decide +kernel) (by decide +kernel) (fun x hx => by simp only [List.mem_cons, List.not_mem_nil, or_false] at hx; subst hx; rw [hC]; rfl) (by decide +kernel) (by decide +kernel) (seen_of hN (by decide +kernel)) (tgt_one (by decide)) (si_range2 ok H.b_range (se_neg se_int) (se_bin rfl ok op_add (e_name ok l_n.toVX) se_int) g_range) (fun L' X' s' ok' => ⟨(t_name ok' (lx_comp rfl (by decide +kernel) (by decide +kernel))), (sts_one (sb_cmp (cmp_in ok'.room) (e_name ok' (lx_comp rfl (by decide +kernel) (by decide +kernel)).toVX) (e_name ok' (vx_comp hS rfl (by decide +kernel) rfl (by decide +kernel) (cl_lookup (by decide +kernel)) (by decide +kernel))))), (e_name ok' (lx_comp rfl (by decide +kernel) (by decide +kernel)).toVX)⟩))))) (sss_cons (ss_ret se_bool)
        sss_nil) sss_nil)
    (su_cons (s_let ok l_once (se_call ktop_p ok H.fold_once.F.glb H.fold_once.F.obj (ok_fold_once H) (by decide) (sas_cons (sa_val (e_name ok l_code.toVX)) (sas_cons (sa_val (e_name ok l_table.toVX)) sas_nil)) g_fold_once))
    (su_cons (ss_if (sb_cmp (cmp_ne ok.room) (se_call1 ok H.b_len (.inl ⟨_, rfl⟩) fn_len (e_name ok l_once.toVX) g_len) (e_name ok l_n.toVX)) (sss_cons (ss_ret se_bool)
        sss_nil) sss_nil)
    (su_cons (ss_for ok (si_range1 ok H.b_range (e_name ok l_n.toVX) g_range) (t_name ok l_i) (sss_cons (ss_if (sb_op (sbs_and (sb_cmp (cmp_ne ok.room) (se_item (e_name ok l_once.toVX) (e_name ok l_i.toVX)) (se_item (e_name ok l_kept.toVX) (e_name ok l_i.toVX))) (sbs_and (sb_cmp (cmp_ne ok.room) (se_item (e_name ok l_once.toVX) (e_name ok l_i.toVX)) (se_tuple (ses_cons se_str (ses_cons se_int ses_nil)))) (sbs_and (sb_cmp (cmp_ne ok.room) (se_item (se_item (e_name ok l_once.toVX) (e_name ok l_i.toVX)) se_int) se_str) sbs_and_nil)))) (sss_cons (ss_ret se_bool)
            sss_nil) sss_nil)
        sss_nil))
    (su_cons (s_let ok l_answer (se_call ktop_p ok H.optimize.F.glb H.optimize.F.obj (ok_optimize H) (by decide) (sas_cons (sa_val (e_name ok l_code.toVX)) (sas_cons (sa_val (e_name ok l_table.toVX)) sas_nil)) g_optimize))
    (su_cons (ss_if (sb_not (sb_type ok H.b_type H.b_tuple (e_name ok l_answer.toVX) g_type g_tuple)) (sss_cons (ss_ret se_bool)
        sss_nil) sss_nil)
    (su_cons (ss_unpack ok (nm_cons l_better (nm_cons l_moved .nil)) (e_name ok l_answer.toVX))
    (su_cons (ss_if (sb_op (sbs_or (sb_not (sb_type ok H.b_type H.b_list (e_name ok l_better.toVX) g_type g_list)) (sbs_or (sb_not (sb_type ok H.b_type H.b_list (e_name ok l_moved.toVX) g_type g_list)) sbs_or_nil))) (sss_cons (ss_ret se_bool)
        sss_nil) sss_nil)
    (su_cons (ss_if (sb_cmp (cmp_ne ok.room) (e_name ok l_better.toVX) (e_name ok l_due.toVX)) (sss_cons (ss_ret se_bool)
        sss_nil) sss_nil)
    (su_cons (ss_for ok (si_val (e_name ok l_better.toVX)) (st_tuple ok (nm_cons l_op (nm_cons l_arg .nil))) (sss_cons (ss_if (sb_not (sb_type ok H.b_type H.b_int (e_name ok l_arg.toVX) g_type g_int)) (sss_cons (ss_ret se_bool)
            sss_nil) sss_nil)
        sss_nil))
    (su_cons (ss_if (sb_cmp (cmp_ne ok.room) (e_name ok l_moved.toVX) (e_name ok l_due_table.toVX)) (sss_cons (ss_ret se_bool)
        sss_nil) sss_nil)
    (su_cons (ss_if (sb_op (sbs_or (sb_cmp (cmp_ne ok.room) (e_name ok l_code.toVX) (e_name ok l_kept.toVX)) (sbs_or (sb_cmp (cmp_ne ok.room) (e_name ok l_table.toVX) (e_name ok l_kept_table.toVX)) sbs_or_nil))) (sss_cons (ss_ret se_bool)
        sss_nil) sss_nil)
    (su_last ktop_p ok hF hFr hX H.law_operator_right.F.glb H.law_operator_right.F.obj (ok_law_operator_right H) (by decide) (sas_cons (sa_val (se_bin rfl ok op_mod (se_item (e_name ok l_script.toVX) se_int) se_int)) (sas_cons (sa_val (se_bin rfl ok op_sub (se_bin rfl ok op_mod (se_item (e_name ok l_script.toVX) se_int) se_int) se_int)) (sas_cons (sa_val (se_bin rfl ok op_sub (se_bin rfl ok op_mod (se_item (e_name ok l_script.toVX) se_int) se_int) se_int)) sas_nil))) g_law_operator_right))))))))))))))))))))))))))
end Mine
end
section
namespace Mine
open PySem PySem.W PyProof.Rows
noncomputable def signE (P : Params) : Array DictEntry := #[{ hash := PyData.keyHash P (Str.mk #[65, 68, 68]), key := Value.str (Str.mk #[65, 68, 68]) 189, val := Value.str (Str.mk #[43]) 190 }, { hash := PyData.keyHash P (Str.mk #[83, 85, 66]), key := Value.str (Str.mk #[83, 85, 66]) 191, val := Value.str (Str.mk #[45]) 192 }, { hash := PyData.keyHash P (Str.mk #[77, 85, 76]), key := Value.str (Str.mk #[77, 85, 76]) 193, val := Value.str (Str.mk #[42]) 194 }, { hash := PyData.keyHash P (Str.mk #[68, 73, 86]), key := Value.str (Str.mk #[68, 73, 86]) 195, val := Value.str (Str.mk #[47, 47]) 196 }, { hash := PyData.keyHash P (Str.mk #[77, 79, 68]), key := Value.str (Str.mk #[77, 79, 68]) 197, val := Value.str (Str.mk #[37]) 198 }, { hash := PyData.keyHash P (Str.mk #[76, 84]), key := Value.str (Str.mk #[76, 84]) 199, val := Value.str (Str.mk #[60]) 200 }, { hash := PyData.keyHash P (Str.mk #[76, 69]), key := Value.str (Str.mk #[76, 69]) 201, val := Value.str (Str.mk #[60, 61]) 202 }, { hash := PyData.keyHash P (Str.mk #[69, 81]), key := Value.str (Str.mk #[69, 81]) 203, val := Value.str (Str.mk #[61, 61]) 204 }, { hash := PyData.keyHash P (Str.mk #[78, 69]), key := Value.str (Str.mk #[78, 69]) 205, val := Value.str (Str.mk #[33, 61]) 206 }, { hash := PyData.keyHash P (Str.mk #[71, 84]), key := Value.str (Str.mk #[71, 84]) 207, val := Value.str (Str.mk #[62]) 208 }, { hash := PyData.keyHash P (Str.mk #[71, 69]), key := Value.str (Str.mk #[71, 69]) 209, val := Value.str (Str.mk #[62, 61]) 210 }]
noncomputable def opsV : Array Value := #[Value.str (Str.mk #[65, 68, 68]) 294, Value.str (Str.mk #[83, 85, 66]) 295, Value.str (Str.mk #[77, 85, 76]) 296, Value.str (Str.mk #[68, 73, 86]) 297, Value.str (Str.mk #[77, 79, 68]) 298, Value.str (Str.mk #[76, 84]) 299, Value.str (Str.mk #[76, 69]) 300, Value.str (Str.mk #[69, 81]) 301, Value.str (Str.mk #[78, 69]) 302, Value.str (Str.mk #[71, 84]) 303, Value.str (Str.mk #[71, 69]) 304]
noncomputable def signsV : Array Value := #[Value.str (Str.mk #[43]) 306, Value.str (Str.mk #[45]) 307, Value.str (Str.mk #[42]) 308, Value.str (Str.mk #[47, 47]) 309, Value.str (Str.mk #[37]) 310, Value.str (Str.mk #[60]) 311, Value.str (Str.mk #[60, 61]) 312, Value.str (Str.mk #[61, 61]) 313, Value.str (Str.mk #[33, 61]) 314, Value.str (Str.mk #[62]) 315, Value.str (Str.mk #[62, 61]) 316]
noncomputable def K7 : Params → Frag := fun P => [(3, { cls := Value.type "dict", data := Data.dict #[{ hash := PyData.keyHash P (Str.mk #[95, 95, 110, 97, 109, 101, 95, 95]), key := Value.str (Str.mk #[95, 95, 110, 97, 109, 101, 95, 95]) 165, val := Value.str (Str.mk #[108, 97, 119, 95, 115, 120, 95, 118, 114, 117, 110, 103, 115, 95, 55]) 292 }, { hash := PyData.keyHash P (Str.mk #[95, 95, 100, 111, 99, 95, 95]), key := Value.str (Str.mk #[95, 95, 100, 111, 99, 95, 95]) 166, val := Value.none }, { hash := PyData.keyHash P (Str.mk #[95, 95, 112, 97, 99, 107, 97, 103, 101, 95, 95]), key := Value.str (Str.mk #[95, 95, 112, 97, 99, 107, 97, 103, 101, 95, 95]) 167, val := Value.none }, { hash := PyData.keyHash P (Str.mk #[95, 95, 108, 111, 97, 100, 101, 114, 95, 95]), key := Value.str (Str.mk #[95, 95, 108, 111, 97, 100, 101, 114, 95, 95]) 168, val := Value.builtin "__main__.__loader__#opaque" }, { hash := PyData.keyHash P (Str.mk #[95, 95, 115, 112, 101, 99, 95, 95]), key := Value.str (Str.mk #[95, 95, 115, 112, 101, 99, 95, 95]) 169, val := Value.none }, { hash := PyData.keyHash P (Str.mk #[95, 95, 97, 110, 110, 111, 116, 97, 116, 105, 111, 110, 115, 95, 95]), key := Value.str (Str.mk #[95, 95, 97, 110, 110, 111, 116, 97, 116, 105, 111, 110, 115, 95, 95]) 170, val := Value.ref 6 }, { hash := PyData.keyHash P (Str.mk #[95, 95, 98, 117, 105, 108, 116, 105, 110, 115, 95, 95]), key := Value.str (Str.mk #[95, 95, 98, 117, 105, 108, 116, 105, 110, 115, 95, 95]) 171, val := Value.ref 4 }, { hash := PyData.keyHash P (Str.mk #[95, 95, 102, 105, 108, 101, 95, 95]), key := Value.str (Str.mk #[95, 95, 102, 105, 108, 101, 95, 95]) 173, val := Value.str (Str.mk #[47, 99, 108, 97, 105, 109, 47, 99, 117, 116, 46, 112, 121]) 172 }, { hash := PyData.keyHash P (Str.mk #[95, 95, 99, 97, 99, 104, 101, 100, 95, 95]), key := Value.str (Str.mk #[95, 95, 99, 97, 99, 104, 101, 100, 95, 95]) 174, val := Value.none }, { hash := PyData.keyHash P (Str.mk #[83, 73, 71, 78, 95, 79, 70]), key := Value.str (Str.mk #[83, 73, 71, 78, 95, 79, 70]) 222, val := Value.ref 15 }, { hash := PyData.keyHash P (Str.mk #[82, 117, 110, 69, 114, 114, 111, 114]), key := Value.str (Str.mk #[82, 117, 110, 69, 114, 114, 111, 114]) 242, val := Value.ref 25 }, { hash := PyData.keyHash P (Str.mk #[97, 112, 112, 108, 121, 95, 98, 105, 110, 97, 114, 121]), key := Value.str (Str.mk #[97, 112, 112, 108, 121, 95, 98, 105, 110, 97, 114, 121]) 252, val := Value.ref 35 }, { hash := PyData.keyHash P (Str.mk #[106, 117, 109, 112, 95, 116, 97, 114, 103, 101, 116, 115]), key := Value.str (Str.mk #[106, 117, 109, 112, 95, 116, 97, 114, 103, 101, 116, 115]) 258, val := Value.ref 40 }, { hash := PyData.keyHash P (Str.mk #[102, 111, 108, 100, 95, 111, 110, 99, 101]), key := Value.str (Str.mk #[102, 111, 108, 100, 95, 111, 110, 99, 101]) 274, val := Value.ref 47 }, { hash := PyData.keyHash P (Str.mk #[115, 116, 114, 105, 112, 95, 110, 111, 112, 115]), key := Value.str (Str.mk #[115, 116, 114, 105, 112, 95, 110, 111, 112, 115]) 280, val := Value.ref 52 }, { hash := PyData.keyHash P (Str.mk #[111, 112, 116, 105, 109, 105, 122, 101]), key := Value.str (Str.mk #[111, 112, 116, 105, 109, 105, 122, 101]) 291, val := Value.ref 59 }, { hash := PyData.keyHash P (Str.mk #[95, 108, 97, 119, 95, 111, 112, 115]), key := Value.str (Str.mk #[95, 108, 97, 119, 95, 111, 112, 115]) 305, val := Value.ref 60 }, { hash := PyData.keyHash P (Str.mk #[95, 108, 97, 119, 95, 115, 105, 103, 110, 115]), key := Value.str (Str.mk #[95, 108, 97, 119, 95, 115, 105, 103, 110, 115]) 317, val := Value.ref 61 }, { hash := PyData.keyHash P (Str.mk #[95, 108, 97, 119, 95, 104, 111, 108, 100, 115]), key := Value.str (Str.mk #[95, 108, 97, 119, 95, 104, 111, 108, 100, 115]) 323, val := Value.ref 68 }, { hash := PyData.keyHash P (Str.mk #[95, 108, 97, 119, 95, 99, 104, 117, 110, 107]), key := Value.str (Str.mk #[95, 108, 97, 119, 95, 99, 104, 117, 110, 107]) 336, val := Value.ref 75 }, { hash := PyData.keyHash P (Str.mk #[95, 108, 97, 119, 95, 99, 111, 100, 101]), key := Value.str (Str.mk #[95, 108, 97, 119, 95, 99, 111, 100, 101]) 342, val := Value.ref 80 }, { hash := PyData.keyHash P (Str.mk #[95, 108, 97, 119, 95, 116, 97, 98, 108, 101]), key := Value.str (Str.mk #[95, 108, 97, 119, 95, 116, 97, 98, 108, 101]) 353, val := Value.ref 87 }, { hash := PyData.keyHash P (Str.mk #[95, 108, 97, 119, 95, 110, 111, 95, 118, 97, 108, 117, 101]), key := Value.str (Str.mk #[95, 108, 97, 119, 95, 110, 111, 95, 118, 97, 108, 117, 101]) 361, val := Value.ref 94 }, { hash := PyData.keyHash P (Str.mk #[95, 108, 97, 119, 95, 118, 97, 108, 117, 101]), key := Value.str (Str.mk #[95, 108, 97, 119, 95, 118, 97, 108, 117, 101]) 371, val := Value.ref 101 }, { hash := PyData.keyHash P (Str.mk #[95, 108, 97, 119, 95, 115, 104, 111, 114, 116]), key := Value.str (Str.mk #[95, 108, 97, 119, 95, 115, 104, 111, 114, 116]) 390, val := Value.ref 108 }, { hash := PyData.keyHash P (Str.mk #[95, 108, 97, 119, 95, 111, 112, 101, 114, 97, 116, 111, 114, 95, 114, 105, 103, 104, 116]), key := Value.str (Str.mk #[95, 108, 97, 119, 95, 111, 112, 101, 114, 97, 116, 111, 114, 95, 114, 105, 103, 104, 116]) 401, val := Value.ref 115 }, { hash := PyData.keyHash P (Str.mk #[108, 97, 119]), key := Value.str (Str.mk #[108, 97, 119]) 407, val := Value.ref 120 }] 27 }), (15, { cls := Value.type "dict", data := Data.dict (signE P) 11 }), (60, { cls := Value.type "tuple", data := Data.seq opsV }), (61, { cls := Value.type "tuple", data := Data.seq signsV })]
end Mine
end
section
namespace Mine
open PySem PySem.W PyProof.Rows
/-- the head's run, from the booted state, one way of a row at a time -/
theorem left_of {p q : Program} {loose : List Str} {Xt : Shared → Bool} {α : Type} {Yf : Shared → α} {Ya : World → α} {N : Nat} (row : String) (e : opening p = plainProg p.main.scope.names) (hN : Nat.ble 600 N = true) (f : ∀ s, fenceModules? p s = some s)
    (hf : ∀ (w : World) (os : OsState), (topFrom treeTable p (w.withFollow row false) N ⟨boot_heap (w.withFollow row false).params, #[], boot_drawn, boot_toks, os⟩).map (fun s => (openSeen q loose (importedModules p.main.body) Xt true s, Yf s)) = some (openGood q loose, Ya (w.withFollow row false)))
    (ht : ∀ (w : World) (os : OsState), (topFrom treeTable p (w.withFollow row true) N ⟨boot_heap (w.withFollow row true).params, #[], boot_drawn, boot_toks, os⟩).map (fun s => (openSeen q loose (importedModules p.main.body) Xt true s, Yf s)) = some (openGood q loose, Ya (w.withFollow row true))) :
    LeftO p q loose Xt Yf Ya N := fun w => by
  obtain ⟨s, hs, hv⟩ := Option.map_eq_some_iff.mp (boot_open e hN f w)
  obtain ⟨h, g, d, tk, os⟩ := s
  injection hv with h1 hv
  injection hv with h2 hv
  injection hv with h3 h4
  simp only at h1 h2 h3 h4
  subst h1 h2 h3 h4
  unfold openEnds
  rw [hs]
  exact byRow2 row (P := fun w => ∀ os, (topFrom treeTable p w N ⟨boot_heap w.params, #[], boot_drawn, boot_toks, os⟩).map (fun s => (openSeen q loose (importedModules p.main.body) Xt true s, Yf s)) = some (openGood q loose, Ya w)) hf ht w os
end Mine
end
section
set_option maxRecDepth 100000
set_option maxHeartbeats 8000000
namespace Mine
open PySem PySem.W PyProof.Rows
/-! ## the head: the law is well said, and its top runs to its end -/
noncomputable def q7 : Program := view PySem.Challenge.pw_sx_vrungs_7 [2, 3, 4, 5, 6, 7, 9, 10, 11, 12, 13, 14, 15, 16, 17, 18, 19]
theorem said7 : PySem.Challenge.rw_sx_vrungs_7.wellSaid = true := by
  delta OpenLaw.wellSaid OpenRow.wellSaid OpenRow.partSaid looksOpen
  repeat' (first | with_reducible refine look_both ?_ ?_ | decide +kernel)
noncomputable abbrev hook7 : Hook := kHook K7 [3, 15, 60, 61] (fun _ => by kernel_rfl)
theorem open7 : opening PySem.Challenge.pw_sx_vrungs_7 = plainProg PySem.Challenge.pw_sx_vrungs_7.main.scope.names := by kernel_rfl
theorem run7f (w : World) (os : OsState) : (topFrom treeTable PySem.Challenge.pw_sx_vrungs_7 (w.withFollow "special-get-raises" false) 1866 ⟨boot_heap (w.withFollow "special-get-raises" false).params, #[], boot_drawn, boot_toks, os⟩).map (fun s => (openSeen q7 ["SIGN_OF"] (importedModules PySem.Challenge.pw_sx_vrungs_7.main.body) (fun s => xlAt q7 [] s && recOk [] s) true s, Hook.obs hook7 s)) = some (openGood q7 ["SIGN_OF"], Hook.val hook7 (w.withFollow "special-get-raises" false)) := by
  delta topFrom
  first
    | (rw [PySem.W.Fast.te14082659384304107361, PySem.W.Fast.te14364793385576792824, PySem.W.Fast.te4187177175401517315]; kernel_rfl)
    | kernel_rfl
theorem run7t (w : World) (os : OsState) : (topFrom treeTable PySem.Challenge.pw_sx_vrungs_7 (w.withFollow "special-get-raises" true) 1866 ⟨boot_heap (w.withFollow "special-get-raises" true).params, #[], boot_drawn, boot_toks, os⟩).map (fun s => (openSeen q7 ["SIGN_OF"] (importedModules PySem.Challenge.pw_sx_vrungs_7.main.body) (fun s => xlAt q7 [] s && recOk [] s) true s, Hook.obs hook7 s)) = some (openGood q7 ["SIGN_OF"], Hook.val hook7 (w.withFollow "special-get-raises" true)) := by
  delta topFrom
  first
    | (rw [PySem.W.Fast.te14082659384304107361, PySem.W.Fast.te14364793385576792824, PySem.W.Fast.te4187177175401517315]; kernel_rfl)
    | kernel_rfl
theorem left7 : LeftO PySem.Challenge.pw_sx_vrungs_7 q7 ["SIGN_OF"] (fun s => xlAt q7 [] s && recOk [] s) (Hook.obs hook7) (Hook.val hook7) 1866 :=
  left_of "special-get-raises" open7 (by rfl) (fun s => by kernel_rfl) run7f run7t
end Mine
end
section
set_option maxRecDepth 100000
set_option maxHeartbeats 1000000
namespace Mine
open PySem PySem.W PySem.Calls PyProof.Rows
noncomputable def opsL : List Str := ["ADD", "SUB", "MUL", "DIV", "MOD", "LT", "LE", "EQ", "NE", "GT", "GE"]
noncomputable def signsL : List Str := ["+", "-", "*", "//", "%", "<", "<=", "==", "!=", ">", ">="]
noncomputable def signKvs (w : World) : List (Str × Value) := (ents (signE w.params).toList).getD []
theorem sign_of (w : World) (h : Heap) : DConst P7 w (KTop ⟨K7 w.params, h⟩) "SIGN_OF" signOf := by
  have h := dconst_of (prog := P7) (w := w) (K := ⟨K7 w.params, h⟩) (x := "SIGN_OF") (a := 15) (es := signE w.params) (ep := 11) (kvs := signKvs w) (xs := signsL)
    (by kernel_rfl) (by kernel_rfl) (by kernel_rfl) (by kernel_rfl) (by kernel_rfl) (by
      have e : (signKvs w).map (·.1) = opsL := by kernel_rfl
      rw [e]; decide +kernel) (by kernel_rfl)
  have e1 : (signKvs w).map (·.1) = opsL := by kernel_rfl
  rw [e1] at h
  have e2 : opsL.zip (signsL.map PyData.str) = signOf := by rfl
  rw [e2] at h
  exact h
noncomputable def fns7 : List Nat := [3, 4, 5, 6, 7, 11, 12, 13, 14, 15, 16, 17, 18, 19]
noncomputable abbrev kb7 (w : World) (h : Heap) : KB := ⟨K7 w.params, h⟩
noncomputable def env7 {w : World} {p : Program} {loose : List Str} {mean : ExcName → Option Value} {mg mb : Str → Option Value} {h : Heap} (T : Top p loose mean mg mb h) (hr : (recsOf p).map (fun d => (d.name, d.params, d.body, d.scope)) = fns7.map (fun i => (fnName P7 i, fnArgs P7 i, fnBody P7 i, fnScope P7 i))) : Env7 w (kb7 w h) where
  apply_binary := fnHere T _ (recIn_of (i := 3) hr (by decide))
  jump_targets := fnHere T _ (recIn_of (i := 4) hr (by decide))
  fold_once := fnHere T _ (recIn_of (i := 5) hr (by decide))
  strip_nops := fnHere T _ (recIn_of (i := 6) hr (by decide))
  optimize := fnHere T _ (recIn_of (i := 7) hr (by decide))
  law_holds := fnHere T _ (recIn_of (i := 11) hr (by decide))
  law_chunk := fnHere T _ (recIn_of (i := 12) hr (by decide))
  law_code := fnHere T _ (recIn_of (i := 13) hr (by decide))
  law_table := fnHere T _ (recIn_of (i := 14) hr (by decide))
  law_no_value := fnHere T _ (recIn_of (i := 15) hr (by decide))
  law_value := fnHere T _ (recIn_of (i := 16) hr (by decide))
  law_short := fnHere T _ (recIn_of (i := 17) hr (by decide))
  law_operator_right := fnHere T _ (recIn_of (i := 18) hr (by decide))
  law := fnHere T _ (recIn_of (i := 19) hr (by decide))
  b_sorted := glb_bi (by kernel_rfl) (by first | rfl | kernel_rfl) (by decide)
  b_len := glb_bi (by kernel_rfl) (by first | rfl | kernel_rfl) (by decide)
  b_list := glb_bi (by kernel_rfl) (by first | rfl | kernel_rfl) (by decide)
  b_range := glb_bi (by kernel_rfl) (by first | rfl | kernel_rfl) (by decide)
  b_int := glb_bi (by kernel_rfl) (by first | rfl | kernel_rfl) (by decide)
  b_type := glb_bi (by kernel_rfl) (by first | rfl | kernel_rfl) (by decide)
  b_tuple := glb_bi (by kernel_rfl) (by first | rfl | kernel_rfl) (by decide)
  c_law_ops := const_of (a := 60) (ws := opsV) (n := 0) (sl := #[]) (od := none) (xs := opsL) (by kernel_rfl) (by kernel_rfl) (by kernel_rfl)
  c_law_signs := const_of (a := 61) (ws := signsV) (n := 0) (sl := #[]) (od := none) (xs := signsL) (by kernel_rfl) (by kernel_rfl) (by kernel_rfl)
  c_SIGN_OF := sign_of w h
  a_err := adr (K7 w.params) "RunError"
  n_err := by kernel_rfl
end Mine
end
section
set_option maxRecDepth 100000
set_option maxHeartbeats 1000000
namespace Mine
open PySem PySem.W PySem.Calls PyProof.Rows
theorem join7 {w : World} {s₁ : Shared} {p : Program} {loose : List Str} {mean : ExcName → Option Value} {mg mb : Str → Option Value} (KX : (K7 w.params).In s₁.heap) (T : Top p loose mean mg mb s₁.heap)
    (hr : (recsOf p).map (fun d => (d.name, d.params, d.body, d.scope)) = fns7.map (fun i => (fnName P7 i, fnArgs P7 i, fnBody P7 i, fnScope P7 i))) (hsp : specOf p "RunError" = some ("Exception.__new__", excBm)) (hin : s₁.heap.NoSeer)
    {fa : Addr} (hfa : mg "law" = some (.ref fa)) {v : Value} {l : List Int} {as : List Addr} (r0 : Reads s₁.heap v (.list (l.map .int)) as) (hF : F_law [.val (.list (l.map .int))] = some (.bool true)) {Q : Value → Shared → Prop} {E : Value → Shared → Prop}
    (h : ∀ s', Ext s₁ s' → Q (.bool true) s') : wpAny (model P7 w) callerA (call (.ref fa) [v]) Q E s₁ := by
  have kt : KTop (kb7 w s₁.heap) s₁.heap := ⟨KX, fun _ _ e => e, T.nolimit, hin, ⟨mg, mb, T.g, T.b, T.builtins⟩, let ⟨Ce, O, _⟩ := T.ownAt hsp; ⟨mg, Ce, T.g, O.own⟩⟩
  have e : fa = (env7 (w := w) T hr).law.a := by
    have h1 : mg "law" = some (Value.ref (env7 (w := w) T hr).law.a) := (fnHere_ex T (K7 w.params) (recIn_of (i := 19) hr (by decide))).choose_spec
    have h2 := hfa.symm.trans h1
    injection h2 with h3
    injection h3
  subst e
  refine ok_law (base := s₁.heap) (env7 T hr) callerA [] s₁ [] [v] [.val (.list (l.map .int))] (.bool true) Q E ⟨rfl, by decide, by decide⟩ rfl trivial Sub.rf (fun _ h => nomatch h) (fun _ h => nomatch h) kt ⟨⟨as, r0⟩, trivial⟩ hF fun v s' t q => ?_
  rw [q.ofBool]
  exact h s' ⟨t.same, fun b o e => t.other b o e (fun h => nomatch h)⟩
end Mine
end
section
namespace Mine
open PySem
open PySem.SeqAt (shaped)
noncomputable def B.enc : B → Str
  | .add => "ADD" | .sub => "SUB" | .mul => "MUL" | .div => "DIV" | .mod => "MOD" | .lt => "LT" | .le => "LE" | .eq => "EQ" | .ne => "NE" | .gt => "GT" | .ge => "GE"
noncomputable def B.sign : B → Str
  | .add => "+" | .sub => "-" | .mul => "*" | .div => "//" | .mod => "%" | .lt => "<" | .le => "<=" | .eq => "==" | .ne => "!=" | .gt => ">" | .ge => ">="
noncomputable def Op.enc : Op → Str
  | .push => "PUSH" | .neg => "NEG" | .not => "NOT" | .nop => "NOP" | .jump => "JUMP" | .jz => "JZ" | .load => "LOAD" | .call => "CALL" | .bin b => b.enc
noncomputable def allB : List B := [.add, .sub, .mul, .div, .mod, .lt, .le, .eq, .ne, .gt, .ge]
noncomputable def allOp : List Op := [.push, .neg, .not, .nop, .jump, .jz, .load, .call] ++ allB.map .bin
noncomputable def Op.dec (s : Str) : Option Op := allOp.find? fun o => decide (o.enc = s)
theorem dec_enc (o : Op) : Op.dec o.enc = some o := by
  cases o with
  | bin b => cases b <;> decide +kernel
  | _ => decide +kernel
theorem enc_inj {a b : Op} : a.enc = b.enc ↔ a = b := ⟨fun h => by
  have := dec_enc a
  rw [h, dec_enc b] at this
  exact (Option.some.inj this).symm, fun h => by rw [h]⟩
theorem enc_ok (o : Op) : PyData.strOk o.enc = true := by
  cases o with
  | bin b => cases b <;> decide +kernel
  | _ => decide +kernel
noncomputable def B.decS (s : Str) : Option B := allB.find? fun o => decide (o.sign = s)
theorem decS_sign (o : B) : B.decS o.sign = some o := by cases o <;> decide +kernel
theorem sign_inj {a b : B} : a.sign = b.sign ↔ a = b := ⟨fun h => by
  have := decS_sign a
  rw [h, decS_sign b] at this
  exact (Option.some.inj this).symm, fun h => by rw [h]⟩
theorem sign_ok (o : B) : PyData.strOk o.sign = true := by cases o <;> decide +kernel
theorem vEq_str {a b : Str} (ha : PyData.strOk a = true) (hb : PyData.strOk b = true) : vEq (.str a) (.str b) = some (decide (a = b)) := by
  simp only [vEq, shaped, PyData.canLay0, ha, hb, PyData.depth, PyData.eqv, Bool.true_and, Nat.zero_le, decide_true, Bool.and_self, if_true]
  rfl
theorem vNe_str {a b : Str} (ha : PyData.strOk a = true) (hb : PyData.strOk b = true) : vNe (.str a) (.str b) = some (!decide (a = b)) := by
  simp only [vNe, shaped, PyData.canLay0, ha, hb, PyData.depth, PyData.eqv, Bool.true_and, Nat.zero_le, decide_true, Bool.and_self, if_true]
  rfl
theorem sh_int (a : Int) : shaped (.int a) = true := by simp [shaped, PyData.canLay0, PyData.depth]
theorem eqv_int (a b : Int) : PyData.eqv (.int a) (.int b) = decide (a = b) := by simp only [PyData.eqv]; rfl
theorem eqv_str (a b : Str) : PyData.eqv (.str a) (.str b) = decide (a = b) := by simp only [PyData.eqv]; rfl
theorem vEq_int (a b : Int) : vEq (.int a) (.int b) = some (decide (a = b)) := by simp only [vEq, sh_int, eqv_int, Bool.and_self, if_true]
theorem vNe_int (a b : Int) : vNe (.int a) (.int b) = some (!decide (a = b)) := by simp only [vNe, sh_int, eqv_int, Bool.and_self, if_true]
theorem vEq_op (a b : Op) : vEq (.str a.enc) (.str b.enc) = some (decide (a = b)) := by rw [vEq_str (enc_ok a) (enc_ok b)]; simp only [enc_inj]
theorem vNe_op (a b : Op) : vNe (.str a.enc) (.str b.enc) = some (!decide (a = b)) := by rw [vNe_str (enc_ok a) (enc_ok b)]; simp only [enc_inj]
theorem vEq_sign (a b : B) : vEq (.str a.sign) (.str b.sign) = some (decide (a = b)) := by rw [vEq_str (sign_ok a) (sign_ok b)]; simp only [sign_inj]
theorem sh_op (a : Op) : shaped (.str a.enc) = true := by simp [shaped, PyData.canLay0, PyData.depth, enc_ok]
theorem sh_sign (a : B) : shaped (.str a.sign) = true := by simp [shaped, PyData.canLay0, PyData.depth, sign_ok]
theorem vIn_op (a : Op) (l : List Op) : vIn (.str a.enc) (.tuple (l.map fun o => .str o.enc)) = some (decide (a ∈ l)) := by
  have h1 : (l.map fun o : Op => PyData.str o.enc).all shaped = true := by
    rw [List.all_eq_true]; intro x hx; obtain ⟨o, _, rfl⟩ := List.mem_map.mp hx; exact sh_op o
  simp only [vIn, sh_op, h1, Bool.and_self, if_true]
  congr 1
  rw [List.any_map, Bool.eq_iff_iff]
  simp only [List.any_eq_true, Function.comp, eqv_str, enc_inj, decide_eq_true_eq]
  exact ⟨fun ⟨x, h, e⟩ => e ▸ h, fun h => ⟨a, h, rfl⟩⟩
theorem vIn_sign (a : B) (l : List B) : vIn (.str a.sign) (.tuple (l.map fun o => .str o.sign)) = some (decide (a ∈ l)) := by
  have h1 : (l.map fun o : B => PyData.str o.sign).all shaped = true := by
    rw [List.all_eq_true]; intro x hx; obtain ⟨o, _, rfl⟩ := List.mem_map.mp hx; exact sh_sign o
  simp only [vIn, sh_sign, h1, Bool.and_self, if_true]
  congr 1
  rw [List.any_map, Bool.eq_iff_iff]
  simp only [List.any_eq_true, Function.comp, eqv_str, sign_inj, decide_eq_true_eq]
  exact ⟨fun ⟨x, h, e⟩ => e ▸ h, fun h => ⟨a, h, rfl⟩⟩
theorem vIn_int (a : Int) (l : List Int) : vIn (.int a) (.list (l.map .int)) = some (decide (a ∈ l)) := by
  have h1 : (l.map PyData.int).all shaped = true := by
    rw [List.all_eq_true]; intro x hx; obtain ⟨o, _, rfl⟩ := List.mem_map.mp hx; exact sh_int o
  simp only [vIn, sh_int, h1, Bool.and_self, if_true]
  congr 1
  rw [List.any_map, Bool.eq_iff_iff]
  simp only [List.any_eq_true, Function.comp, eqv_int, decide_eq_true_eq]
  exact ⟨fun ⟨x, h, e⟩ => e ▸ h, fun h => ⟨a, h, rfl⟩⟩
/-! the literals, as what they stand for -/
theorem l_push : (Str.ofString "PUSH") = Op.push.enc := rfl
theorem l_neg : (Str.ofString "NEG") = Op.neg.enc := rfl
theorem l_not : (Str.ofString "NOT") = Op.not.enc := rfl
theorem l_nop : (Str.ofString "NOP") = Op.nop.enc := rfl
theorem vIn_jumps (a : Op) : vIn (.str a.enc) (.tuple [.str "JUMP", .str "JZ"]) = some a.isJ := by
  rw [show [PyData.str "JUMP", PyData.str "JZ"] = ([Op.jump, Op.jz].map fun o => PyData.str o.enc) from rfl, vIn_op]
  cases a <;> simp [Op.isJ]
theorem vIn_dm (a : Op) : vIn (.str a.enc) (.tuple [.str "DIV", .str "MOD"]) = some (decide (a = .bin .div ∨ a = .bin .mod)) := by
  rw [show [PyData.str "DIV", PyData.str "MOD"] = ([Op.bin .div, Op.bin .mod].map fun o => PyData.str o.enc) from rfl, vIn_op]
  simp
noncomputable def Op.isB : Op → Bool
  | .bin _ => true
  | _ => false
theorem allB_mem (b : B) : b ∈ allB := by
  have h : (allB.contains b) = true := by cases b <;> rfl
  simpa using h
theorem vIn_ops (a : Op) : vIn (.str a.enc) opsD = some a.isB := by
  have e : opsD = .tuple ((allB.map Op.bin).map fun o => PyData.str o.enc) := rfl
  rw [e, vIn_op]
  congr 1
  cases a with
  | bin b => exact decide_eq_true (List.mem_map.mpr ⟨b, allB_mem b, rfl⟩)
  | _ => exact decide_eq_false fun h => by obtain ⟨b, _, hb⟩ := List.mem_map.mp h; cases hb
theorem signOf_bin (b : B) : signOf.lookup (Op.bin b).enc = some (.str b.sign) := by
  have key : ∀ (l : List B), b ∈ l → (l.map fun o => (o.enc, PyData.str o.sign)).lookup b.enc = some (.str b.sign) := by
    intro l
    induction l with
    | nil => intro h; cases h
    | cons c r ih =>
      intro h
      rw [List.map_cons, List.lookup_cons]
      by_cases e : c = b
      · subst e; simp
      · have hne : (b.enc == c.enc) = false := by
          rw [beq_eq_false_iff_ne]
          intro h'
          have : (Op.bin b).enc = (Op.bin c).enc := h'
          rw [enc_inj] at this
          cases this; exact e rfl
        rw [hne]
        exact ih ((List.mem_cons.mp h).resolve_left fun q => e q.symm)
  exact key allB (allB_mem b)
theorem signOf_none {a : Op} (h : a.isB = false) : signOf.lookup a.enc = none := by
  have key : ∀ (l : List B), (l.map fun o => (o.enc, PyData.str o.sign)).lookup a.enc = none := by
    intro l
    induction l with
    | nil => rfl
    | cons c r ih =>
      rw [List.map_cons, List.lookup_cons]
      have hne : (a.enc == c.enc) = false := by
        rw [beq_eq_false_iff_ne]
        intro h'
        have : a.enc = (Op.bin c).enc := h'
        rw [enc_inj] at this
        rw [this] at h; cases h
      rw [hne]; exact ih
  exact key allB
/-! ### instructions, code and tables as data -/
noncomputable def encI (x : I) : PyData := .tuple [.str x.1.enc, .int x.2]
noncomputable def encC (c : List I) : PyData := .list (c.map encI)
abbrev Row := (Str × Int × Int) × Int
noncomputable def encR (r : Row) : PyData := .tuple [.str r.1.1, .int r.1.2.1, .int r.1.2.2, .int r.2]
noncomputable def encT (t : List Row) : PyData := .list (t.map encR)
noncomputable def RowOk (r : Row) : Prop := PyData.strOk r.1.1 = true
noncomputable def iL (l : List Int) : PyData := .list (l.map .int)
theorem eqv_encI (x y : I) : PyData.eqv (encI x) (encI y) = decide (x = y) := by
  obtain ⟨a, b⟩ := x
  obtain ⟨c, d⟩ := y
  simp only [encI, PyData.eqv, PyData.eqvAll, Bool.and_true]
  rw [Bool.eq_iff_iff]
  simp [enc_inj]
theorem eqv_encR (x y : Row) : PyData.eqv (encR x) (encR y) = decide (x = y) := by
  obtain ⟨⟨a, b, c⟩, d⟩ := x
  obtain ⟨⟨a', b', c'⟩, d'⟩ := y
  simp only [encR, PyData.eqv, PyData.eqvAll, Bool.and_true]
  rw [Bool.eq_iff_iff]
  simp [and_assoc]
theorem eqvAll_map {α : Type} [DecidableEq α] {f : α → PyData} (hf : ∀ x y, PyData.eqv (f x) (f y) = decide (x = y)) : ∀ (c d : List α), PyData.eqvAll (c.map f) (d.map f) = decide (c = d)
  | [], [] => by simp [PyData.eqvAll]
  | [], _ :: _ => by simp [PyData.eqvAll]
  | _ :: _, [] => by simp [PyData.eqvAll]
  | x :: c, y :: d => by simp only [List.map_cons, PyData.eqvAll, hf, eqvAll_map hf c d, List.cons.injEq, Bool.decide_and]
theorem eqv_encC (c d : List I) : PyData.eqv (encC c) (encC d) = decide (c = d) := by simp only [encC, PyData.eqv, eqvAll_map eqv_encI]
theorem eqv_encT (c d : List Row) : PyData.eqv (encT c) (encT d) = decide (c = d) := by simp only [encT, PyData.eqv, eqvAll_map eqv_encR]
theorem eqv_ints (c d : List Int) : PyData.eqv (iL c) (iL d) = decide (c = d) := by simp only [iL, PyData.eqv, eqvAll_map eqv_int]
theorem lay_map {α : Type} {f : α → PyData} {n : Nat} : ∀ (c : List α), (∀ x ∈ c, (f x).canLay0 = true ∧ (f x).depth ≤ n) → PyData.canLayAll0 (c.map f) = true ∧ PyData.depthAll (c.map f) ≤ n
  | [], _ => by simp [PyData.canLayAll0, PyData.depthAll]
  | x :: c, h => by
    have h1 := h x (.head _)
    have h2 := lay_map c fun y hy => h y (.tail _ hy)
    simp only [List.map_cons, PyData.canLayAll0, PyData.depthAll, h1.1, h2.1, Bool.and_self, true_and]
    omega
theorem lay_encI (x : I) : (encI x).canLay0 = true ∧ (encI x).depth ≤ 1 := by
  simp [encI, PyData.canLay0, PyData.canLayAll0, PyData.depth, PyData.depthAll, enc_ok]
theorem lay_encR {x : Row} (h : RowOk x) : (encR x).canLay0 = true ∧ (encR x).depth ≤ 1 := by
  unfold RowOk at h
  simp [encR, PyData.canLay0, PyData.canLayAll0, PyData.depth, PyData.depthAll, h]
theorem sh_list {α : Type} {f : α → PyData} (c : List α) (h : ∀ x ∈ c, (f x).canLay0 = true ∧ (f x).depth ≤ 1) : shaped (.list (c.map f)) = true := by
  have := lay_map c h
  have h2 := this.2
  have h3 : decide ((PyData.list (c.map f)).depth ≤ 64) = true := by
    rw [decide_eq_true_eq, PyData.depth]; omega
  simp only [shaped, PyData.canLay0, this.1, h3, Bool.and_self]
theorem sh_encI (x : I) : shaped (encI x) = true := by
  have := lay_encI x
  simp only [shaped, this.1, Bool.true_and, decide_eq_true_eq]; omega
theorem sh_encC (c : List I) : shaped (encC c) = true := sh_list c fun x _ => lay_encI x
theorem sh_encT {c : List Row} (h : ∀ r ∈ c, RowOk r) : shaped (encT c) = true := sh_list c fun x hx => lay_encR (h x hx)
theorem sh_ints (c : List Int) : shaped (iL c) = true := sh_list c fun x _ => by simp [PyData.canLay0, PyData.depth]
theorem vEq_encC (c d : List I) : vEq (encC c) (encC d) = some (decide (c = d)) := by simp only [vEq, sh_encC, eqv_encC, Bool.and_self, if_true]
theorem vNe_encC (c d : List I) : vNe (encC c) (encC d) = some (!decide (c = d)) := by simp only [vNe, sh_encC, eqv_encC, Bool.and_self, if_true]
theorem vNe_encI (c d : I) : vNe (encI c) (encI d) = some (!decide (c = d)) := by simp only [vNe, sh_encI, eqv_encI, Bool.and_self, if_true]
theorem vNe_encT {c d : List Row} (hc : ∀ r ∈ c, RowOk r) (hd : ∀ r ∈ d, RowOk r) : vNe (encT c) (encT d) = some (!decide (c = d)) := by simp only [vNe, sh_encT hc, sh_encT hd, eqv_encT, Bool.and_self, if_true]
theorem vNe_ints (c d : List Int) : vNe (iL c) (iL d) = some (!decide (c = d)) := by simp only [vNe, sh_ints, eqv_ints, Bool.and_self, if_true]
/-! ### the operators -/
/-- the operands at which the operator has a value that the model computes -/
noncomputable def Can (o : B) (a b : Int) : Prop := noVal o b = false ∧ (o = .mul → Fac a ∧ Fac b)
/-! ### steps -/
theorem seq_next {a : DS} {r : List DS} {σ σ' : St} (h : a σ = some (.next σ')) : sSeq (a :: r) σ = sSeq r σ' := by rw [sSeq, h]
theorem seq_ret {a : DS} {r : List DS} {σ : St} {d : PyData} (h : a σ = some (.ret d)) : sSeq (a :: r) σ = some (.ret d) := by rw [sSeq, h]
theorem seq_cont {a : DS} {r : List DS} {σ σ' : St} (h : a σ = some (.cont σ')) : sSeq (a :: r) σ = some (.cont σ') := by rw [sSeq, h]
theorem seq_brk {a : DS} {r : List DS} {σ σ' : St} (h : a σ = some (.brk σ')) : sSeq (a :: r) σ = some (.brk σ') := by rw [sSeq, h]
theorem seq_nil {σ : St} : sSeq [] σ = some (.next σ) := rfl
theorem if_t {c : DB} {a b : DS} {σ : St} (h : c σ = some true) : sIf c a b σ = a σ := by unfold sIf; rw [h]
theorem if_f {c : DB} {a b : DS} {σ : St} (h : c σ = some false) : sIf c a b σ = b σ := by unfold sIf; rw [h]
theorem loop_next {tgt : PyData → St → Option St} {body : DS} {x : PyData} {r : List PyData} {σ σ₁ σ₂ : St} (h1 : tgt x σ = some σ₁) (h2 : body σ₁ = some (.next σ₂)) : loop tgt body (x :: r) σ = loop tgt body r σ₂ := by rw [loop, h1]; simp only [h2]
theorem loop_cont {tgt : PyData → St → Option St} {body : DS} {x : PyData} {r : List PyData} {σ σ₁ σ₂ : St} (h1 : tgt x σ = some σ₁) (h2 : body σ₁ = some (.cont σ₂)) : loop tgt body (x :: r) σ = loop tgt body r σ₂ := by rw [loop, h1]; simp only [h2]
theorem loop_brk {tgt : PyData → St → Option St} {body : DS} {x : PyData} {r : List PyData} {σ σ₁ σ₂ : St} (h1 : tgt x σ = some σ₁) (h2 : body σ₁ = some (.brk σ₂)) : loop tgt body (x :: r) σ = some (.next σ₂) := by rw [loop, h1]; simp only [h2]
theorem for_of {tgt : PyData → St → Option St} {src : DL} {body : DS} {σ : St} {xs : List PyData} {o : Option Out} (h1 : src σ = some xs) (h2 : loop tgt body xs σ = o) : sFor tgt src body σ = o := by unfold sFor; rw [h1]; exact h2
theorem let_of {i : Nat} {e : DE} {σ : St} {d : PyData} (h : e σ = some d) : sLet i e σ = some (.next (σ.set i (.val d))) := by unfold sLet; rw [h]
theorem unpack_of {is : List Nat} {e : DE} {σ σ' : St} {d : PyData} (h : e σ = some d) (h2 : unpackTo is d σ = some σ') : sUnpack is e σ = some (.next σ') := by unfold sUnpack; rw [h]; simp only [h2]
theorem own_of {i : Nat} {e : DL} {σ : St} {xs : List PyData} (h : e σ = some xs) : sOwn i e σ = some (.next (σ.set i (.own xs))) := by unfold sOwn; rw [h]
theorem ret_of {e : DE} {σ : St} {d : PyData} (h : e σ = some d) : sRet e σ = some (.ret d) := by unfold sRet; rw [h]; rfl
theorem run_ret {np n : Nat} {body : DS} {args : List Slot} {d : PyData} (hl : args.length = np) (h : body (args ++ List.replicate n .no) = some (.ret d)) : runFn np n body args = some d := by unfold runFn; rw [if_pos hl, h]
theorem all_nil {σ : St} : dAll [] σ = some [] := rfl
theorem all_cons {e : DE} {r : List DE} {σ : St} {d : PyData} {ds : List PyData} (h : e σ = some d) (hs : dAll r σ = some ds) : dAll (e :: r) σ = some (d :: ds) := by rw [dAll, h, hs]
theorem tup_of {es : List DE} {σ : St} {ds : List PyData} (h : dAll es σ = some ds) : dTup es σ = some (.tuple ds) := by unfold dTup; rw [h]; rfl
theorem lst_of {es : List DE} {σ : St} {ds : List PyData} (h : dAll es σ = some ds) : dLst es σ = some (.list ds) := by unfold dLst; rw [h]; rfl
theorem comp_of {l : DL} {σ : St} {xs : List PyData} (h : l σ = some xs) : dComp l σ = some (.list xs) := by unfold dComp; rw [h]; rfl
theorem d2_of {f : PyData → PyData → Option PyData} {a b : DE} {σ : St} {x y r : PyData} (ha : a σ = some x) (hb : b σ = some y) (h : f x y = some r) : d2 f a b σ = some r := by unfold d2; rw [ha]; simp only [hb]; exact h
theorem d1_of {f : PyData → Option PyData} {a : DE} {σ : St} {x r : PyData} (ha : a σ = some x) (h : f x = some r) : d1 f a σ = some r := by unfold d1; rw [ha]; exact h
theorem b2_of {f : PyData → PyData → Option Bool} {a b : DE} {σ : St} {x y : PyData} {r : Bool} (ha : a σ = some x) (hb : b σ = some y) (h : f x y = some r) : b2 f a b σ = some r := by unfold b2; rw [ha]; simp only [hb]; exact h
theorem aall_cons {e : DE} {r : List DA} {σ : St} {d : PyData} {ds : List Slot} (h : e σ = some d) (hs : aAll r σ = some ds) : aAll (aVal e :: r) σ = some (.val d :: ds) := by rw [aAll]; simp only [aVal, h, Option.map_some, hs]
theorem call_of {f : List Slot → Option PyData} {as : List DA} {σ : St} {ds : List Slot} {d : PyData} (h : aAll as σ = some ds) (h2 : f ds = some d) : dCall f as σ = some d := by unfold dCall; rw [h]; exact h2
theorem pass_if {c : DB} {x : DS} {r : List DS} {σ : St} (h : c σ = some false) : sSeq (sIf c x (sSeq []) :: r) σ = sSeq r σ := seq_next (by rw [if_f h]; rfl)
theorem take_ret {c : DB} {x : DE} {r : List DS} {σ : St} {d : PyData} (h : c σ = some true) (hx : x σ = some d) : sSeq (sIf c (sSeq [sRet x]) (sSeq []) :: r) σ = some (.ret d) := seq_ret (by rw [if_t h]; exact seq_ret (ret_of hx))
theorem F_apply {o : B} {a b : Int} (h : Can o a b) : F_apply_binary [.val (.str o.sign), .val (.int a), .val (.int b)] = some (.int (o.val a b)) := by
  obtain ⟨h1, h2⟩ := h
  have hin : vIn (.str o.sign) (.tuple [.str B.div.sign, .str B.mod.sign]) = some (decide (o ∈ [B.div, B.mod])) := vIn_sign o [B.div, B.mod]
  have ca : ∀ (o' : B) (s3 : Slot), (b2 vEq (dName 0) (dLit (.str o'.sign))) [.val (.str o.sign), .val (.int a), .val (.int b), s3] = some (decide (o = o')) := fun o' s3 => vEq_sign o o'
  have fin : ∀ v : Bool, sSeq [sIf (bOf (dName 3)) (sSeq [sRet (dLit (.int 1))]) (sSeq []), sRet (dLit (.int 0))] [.val (.str o.sign), .val (.int a), .val (.int b), .val (.bool v)] = some (.ret (.int (b01 v))) := fun v => by cases v <;> rfl
  have els : ∀ {c : DB} {x y : DS} {σ' : St}, c [.val (.str o.sign), .val (.int a), .val (.int b), .no] = some false → y [.val (.str o.sign), .val (.int a), .val (.int b), .no] = some (.next σ') → sSeq [sIf c x y] [.val (.str o.sign), .val (.int a), .val (.int b), .no] = some (.next σ') := fun hc hy => seq_next (by rw [if_f hc]; exact hy)
  have thn : ∀ {c : DB} {x y : DS} {σ' : St}, c [.val (.str o.sign), .val (.int a), .val (.int b), .no] = some true → x [.val (.str o.sign), .val (.int a), .val (.int b), .no] = some (.next σ') → sSeq [sIf c x y] [.val (.str o.sign), .val (.int a), .val (.int b), .no] = some (.next σ') := fun hc hx => seq_next (by rw [if_t hc]; exact hx)
  have put3 : ∀ {e : DB} {v : Bool}, e [.val (.str o.sign), .val (.int a), .val (.int b), .no] = some v → sSeq [sLet 3 (bVal e)] [.val (.str o.sign), .val (.int a), .val (.int b), .no] = some (.next [.val (.str o.sign), .val (.int a), .val (.int b), .val (.bool v)]) := fun {e v} he => (seq_next (let_of (d := .bool v) (by unfold bVal; rw [he]; rfl))).trans rfl
  unfold F_apply_binary
  refine run_ret rfl ?_
  show D_apply_binary [.val (.str o.sign), .val (.int a), .val (.int b), .no] = _
  unfold D_apply_binary
  by_cases e1 : o = .add
  · subst e1; exact take_ret (ca .add _) rfl
  refine (pass_if ((ca .add _).trans (by rw [decide_eq_false e1]))).trans ?_
  by_cases e2 : o = .sub
  · subst e2; exact take_ret (ca .sub _) rfl
  refine (pass_if ((ca .sub _).trans (by rw [decide_eq_false e2]))).trans ?_
  by_cases e3 : o = .mul
  · subst e3
    exact take_ret (ca .mul _) (d2_of rfl rfl (by simp only [vMul]; rw [if_pos (h2 rfl)]; rfl))
  refine (pass_if ((ca .mul _).trans (by rw [decide_eq_false e3]))).trans ?_
  by_cases e4 : o ∈ [B.div, B.mod]
  · have hdm : o.dm = true := by
      rcases List.mem_cons.mp e4 with rfl | e
      · rfl
      · rw [List.mem_singleton.mp e]; rfl
    have hb : b ≠ 0 := by simpa [noVal, hdm] using h1
    refine seq_ret ?_
    rw [if_t (by refine (b2_of rfl rfl hin).trans ?_; rw [decide_eq_true e4])]
    refine (pass_if ((b2_of rfl rfl (vEq_int b 0)).trans (by rw [decide_eq_false hb]))).trans ?_
    by_cases e5 : o = .div
    · subst e5
      exact take_ret (ca .div _) (d2_of rfl rfl (by simp only [vDiv]; rw [if_neg hb]; rfl))
    · refine (pass_if ((ca .div _).trans (by rw [decide_eq_false e5]))).trans ?_
      have e6 : o = .mod := by
        rcases List.mem_cons.mp e4 with e | e
        · exact absurd e e5
        · exact List.mem_singleton.mp e
      subst e6
      exact seq_ret (ret_of (d2_of rfl rfl (by simp only [vMod]; rw [if_neg hb]; rfl)))
  refine (pass_if ((b2_of rfl rfl hin).trans (by rw [decide_eq_false e4]))).trans ?_
  have key : ∀ {c : DB} {x y : DS} {v : Bool}, sSeq [sIf c x y] [.val (.str o.sign), .val (.int a), .val (.int b), .no] = some (.next [.val (.str o.sign), .val (.int a), .val (.int b), .val (.bool v)]) → o.val a b = b01 v →
      sSeq [sIf c x y, sIf (bOf (dName 3)) (sSeq [sRet (dLit (.int 1))]) (sSeq []), sRet (dLit (.int 0))] [.val (.str o.sign), .val (.int a), .val (.int b), .no] = some (.ret (.int (o.val a b))) := by
    intro c x y v hx hv
    have h0 : sIf c x y [.val (.str o.sign), .val (.int a), .val (.int b), .no] = some (.next [.val (.str o.sign), .val (.int a), .val (.int b), .val (.bool v)]) := by
      rw [sSeq] at hx
      split at hx
      · rename_i σ' e; rw [e]; rw [sSeq] at hx; exact hx
      · rename_i o' hn e; cases hx; exact absurd rfl (hn _)
      · cases hx
    rw [seq_next h0, fin, hv]
  cases o with
  | add => exact absurd rfl e1
  | sub => exact absurd rfl e2
  | mul => exact absurd rfl e3
  | div => exact absurd (.head _) e4
  | mod => exact absurd (.tail _ (.head _)) e4
  | lt => exact key (v := decide (a < b)) (thn (ca .lt _) (put3 rfl)) rfl
  | le => exact key (v := decide (a ≤ b)) (els (ca .lt _) (thn (ca .le _) (put3 rfl))) rfl
  | eq => exact key (v := decide (a = b)) (els (ca .lt _) (els (ca .le _) (thn (ca .eq _) (put3 (vEq_int a b))))) rfl
  | ne => exact key (v := !decide (a = b)) (els (ca .lt _) (els (ca .le _) (els (ca .eq _) (thn (ca .ne _) (put3 (vNe_int a b)))))) (by simp [B.val])
  | gt => exact key (v := decide (a > b)) (els (ca .lt _) (els (ca .le _) (els (ca .eq _) (els (ca .ne _) (thn (ca .gt _) (put3 rfl)))))) rfl
  | ge => exact key (v := decide (a ≥ b)) (els (ca .lt _) (els (ca .le _) (els (ca .eq _) (els (ca .ne _) (els (ca .gt _) (put3 rfl)))))) rfl
end Mine
end
section
namespace Mine
open PySem
open PySem.SeqAt (shaped)
theorem intsOf_map : ∀ l : List Int, intsOf (l.map .int) = some l
  | [] => rfl
  | a :: l => by simp [intsOf, intsOf_map l]
theorem comp_jumps : ∀ c : List I, comp (unpackTo [0, 1]) (b2 vIn (dName 0) (dTup [(dLit (.str "JUMP")), (dLit (.str "JZ"))])) (dName 1) [.no, .no] (c.map encI) = some (((c.filter fun x => x.1.isJ).map (·.2)).map .int)
  | [] => rfl
  | x :: c => by
    have ih := comp_jumps c
    have h1 : unpackTo [0, 1] (encI x) [.no, .no] = some [.val (.str x.1.enc), .val (.int x.2)] := rfl
    have h2 : (b2 vIn (dName 0) (dTup [(dLit (.str "JUMP")), (dLit (.str "JZ"))])) [.val (.str x.1.enc), .val (.int x.2)] = some x.1.isJ := vIn_jumps x.1
    have h3 : (dName 1) [.val (.str x.1.enc), .val (.int x.2)] = some (.int x.2) := rfl
    rw [List.map_cons, comp, h1]
    simp only [h2, h3]
    have ih' : comp (unpackTo [0, 1]) (b2 vIn (dName 0) (dTup [(dLit (.str "JUMP")), (dLit (.str "JZ"))])) (dName 1) [.no, .no] (c.map encI) = _ := ih
    rw [ih']
    cases h : x.1.isJ with
    | true => simp [h]
    | false => simp [h]
theorem vItem_row (r : Row) : vItem (encR r) (.int 3) = some (.int r.2) := by
  simp [vItem, encR, idxOf, listLine]
theorem comp_rows : ∀ t : List Row, comp (toOne 0) bTrue (d2 vItem (dName 0) (dLit (.int 3))) [.no] (t.map encR) = some ((t.map (·.2)).map .int)
  | [] => rfl
  | x :: c => by
    have ih := comp_rows c
    rw [List.map_cons, comp]
    simp only [toOne, List.set_cons_zero, bTrue, d2, dName, dLit, List.getElem?_cons_zero, vItem_row, ih]
    simp
noncomputable def dd (acc : List Int) : List Int → List Int
  | [] => acc
  | a :: l => if acc = [] ∨ acc.getLast? ≠ some a then dd (acc ++ [a]) l else dd acc l
theorem own_last {acc : List Int} (h : acc ≠ []) (hl : acc.length ≤ listLine) : ∃ z, acc.getLast? = some z ∧ vItem (.list (acc.map .int)) (.int (-1)) = some (.int z) := by
  obtain ⟨z, hz⟩ := Option.isSome_iff_exists.mp (by simpa using h : acc.getLast?.isSome = true)
  refine ⟨z, hz, ?_⟩
  have hn : 0 < acc.length := List.length_pos_iff.mpr h
  have hi : idxOf acc.length (-1) = some (acc.length - 1) := by
    unfold idxOf
    rw [if_pos hl, if_neg (by omega), if_pos (by omega)]
    congr 1; omega
  simp only [vItem, List.length_map, hi, List.getElem?_map]
  rw [← List.getLast?_eq_getElem?, hz]; rfl
noncomputable def bodyDD : DS := sSeq [sIf (bOr [(b2 vEq (dOwnLen 3) (dLit (.int 0))), (b2 vNe (dOwnItem 3 (d1 vNeg (dLit (.int 1)))) (dName 4))]) (sSeq [sAppend 3 (dName 4)]) (sSeq [])]
theorem loop_dd (A B C : Slot) : ∀ (l acc : List Int) (X : Slot), acc.length + l.length ≤ listLine → ∃ X', loop (toOne 4) bodyDD (l.map .int) [A, B, C, .own (acc.map .int), X]
    = some (.next [A, B, C, .own ((dd acc l).map .int), X'])
  | [], acc, X, _ => ⟨X, rfl⟩
  | a :: l, acc, X, h => by
    simp only [List.length_cons] at h
    have hl : acc.length ≤ listLine := by omega
    have h1 : toOne 4 (.int a) [A, B, C, .own (acc.map .int), X] = some [A, B, C, .own (acc.map .int), .val (.int a)] := rfl
    by_cases h0 : acc = []
    · obtain ⟨X', e⟩ := loop_dd A B C l (acc ++ [a]) (.val (.int a)) (by simp; omega)
      refine ⟨X', ?_⟩
      have h2 : bodyDD [A, B, C, .own (acc.map .int), .val (.int a)] = some (.next [A, B, C, .own ((acc ++ [a]).map .int), .val (.int a)]) := by
        subst h0
        simp [bodyDD, sSeq, sIf, bOr, b2, dOwnLen, dLit, vLen, vEq_int, sAppend, dName, listLine]
      rw [List.map_cons, loop_next h1 h2, e, dd, if_pos (.inl h0)]
    · obtain ⟨z, hz, hv⟩ := own_last h0 hl
      have hz0 : ¬ ((acc.length : Int) = 0) := by
        have := List.length_pos_iff.mpr h0; omega
      have hvl : vLen (.list (acc.map .int)) = some (.int acc.length) := by simp [vLen, hl]
      have hcond : bOr [(b2 vEq (dOwnLen 3) (dLit (.int 0))), (b2 vNe (dOwnItem 3 (d1 vNeg (dLit (.int 1)))) (dName 4))] [A, B, C, .own (acc.map .int), .val (.int a)] = some (!decide (z = a)) := by
        have e1 : (b2 vEq (dOwnLen 3) (dLit (.int 0))) [A, B, C, .own (acc.map .int), .val (.int a)] = some false := by
          show (match vLen (.list (acc.map .int)) with | some x => vEq x (.int 0) | none => none) = _
          rw [hvl]; simp only [vEq_int, hz0, decide_false]
        have e2 : (b2 vNe (dOwnItem 3 (d1 vNeg (dLit (.int 1)))) (dName 4)) [A, B, C, .own (acc.map .int), .val (.int a)] = some (!decide (z = a)) := by
          show (match vItem (.list (acc.map .int)) (.int (-1)) with | some x => vNe x (.int a) | none => none) = _
          rw [hv]; simp only [vNe_int]
        simp only [bOr, e1, e2]
        cases decide (z = a) <;> rfl
      by_cases hza : z = a
      · obtain ⟨X', e⟩ := loop_dd A B C l acc (.val (.int a)) (by omega)
        refine ⟨X', ?_⟩
        have h2 : bodyDD [A, B, C, .own (acc.map .int), .val (.int a)] = some (.next [A, B, C, .own (acc.map .int), .val (.int a)]) := by
          unfold bodyDD
          rw [seq_next (σ' := [A, B, C, .own (acc.map .int), .val (.int a)]) (by rw [if_f (by rw [hcond]; simp [hza])]; rfl)]
          rfl
        rw [List.map_cons, loop_next h1 h2, e, dd, if_neg]
        simp [h0, hz, hza]
      · obtain ⟨X', e⟩ := loop_dd A B C l (acc ++ [a]) (.val (.int a)) (by simp; omega)
        refine ⟨X', ?_⟩
        have h2 : bodyDD [A, B, C, .own (acc.map .int), .val (.int a)] = some (.next [A, B, C, .own ((acc ++ [a]).map .int), .val (.int a)]) := by
          unfold bodyDD
          rw [seq_next (σ' := [A, B, C, .own ((acc ++ [a]).map .int), .val (.int a)]) (by
            rw [if_t (by rw [hcond]; simp [hza])]
            simp [sSeq, sAppend, dName, hl])]
          rfl
        rw [List.map_cons, loop_next h1 h2, e, dd, if_pos]
        right; rw [hz]; simpa using hza
theorem dd_ok : ∀ (l acc : List Int), l.Pairwise (· ≤ ·) → acc.Pairwise (· < ·) → (∀ x ∈ acc, ∀ y ∈ l, x ≤ y) → (dd acc l).Pairwise (· < ·) ∧ ∀ x, x ∈ dd acc l ↔ x ∈ acc ∨ x ∈ l
  | [], acc, _, h2, _ => ⟨h2, fun x => by simp [dd]⟩
  | a :: l, acc, h1, h2, h3 => by
    rw [List.pairwise_cons] at h1
    unfold dd
    split
    · rename_i hc
      have hlt : ∀ x ∈ acc, x < a := by
        intro x hx
        rcases hc with hc | hc
        · rw [hc] at hx; cases hx
        · obtain ⟨z, hz⟩ := Option.isSome_iff_exists.mp (by simpa using List.ne_nil_of_mem hx : acc.getLast?.isSome = true)
          have hza : z ≠ a := fun e => hc (by rw [hz, e])
          have hzm : z ∈ acc := List.mem_of_getLast? hz
          have h4 := h3 z hzm a (.head _)
          obtain ⟨ys, rfl⟩ := List.getLast?_eq_some_iff.mp hz
          rw [List.pairwise_append] at h2
          rcases List.mem_append.mp hx with hx | hx
          · have := h2.2.2 x hx z (by simp); omega
          · simp at hx; subst hx; omega
      have := dd_ok l (acc ++ [a]) h1.2 (by
        rw [List.pairwise_append]
        exact ⟨h2, by simp, fun x hx y hy => by simp at hy; subst hy; exact hlt x hx⟩) (by
        intro x hx y hy
        rcases List.mem_append.mp hx with hx | hx
        · exact h3 x hx y (.tail _ hy)
        · simp at hx; subst hx; exact h1.1 y hy)
      refine ⟨this.1, fun x => ?_⟩
      rw [this.2]; simp [or_assoc]
    · rename_i hc
      have := dd_ok l acc h1.2 h2 fun x hx y hy => h3 x hx y (.tail _ hy)
      refine ⟨this.1, fun x => ?_⟩
      rw [this.2]
      have hc' : acc.getLast? = some a := by
        have := not_or.mp hc
        exact Classical.not_not.mp this.2
      have ha : a ∈ acc := List.mem_of_getLast? hc'
      simp only [List.mem_cons]
      constructor
      · rintro (h | h)
        · exact .inl h
        · exact .inr (.inr h)
      · rintro (h | h | h)
        · exact .inl h
        · subst h; exact .inl ha
        · exact .inr h
/-- the targets, as the program lists them -/
noncomputable def tgL (c : List I) (t : List Row) : List Int := dd [] (sortI (tg c t))
theorem sortI_perm' (l : List Int) : (sortI l).Perm l := List.mergeSort_perm l _
theorem sortI_sorted' (l : List Int) : (sortI l).Pairwise (· ≤ ·) := by
  have h := List.pairwise_mergeSort (le := fun a b : Int => decide (a ≤ b)) (fun a b c h1 h2 => by simp at *; omega) (fun a b => by simp; omega) l
  exact h.imp fun h => by simpa using h
theorem tgL_ok (c : List I) (t : List Row) : (tgL c t).Pairwise (· < ·) ∧ ∀ x, x ∈ tgL c t ↔ x ∈ tg c t := by
  have := dd_ok (sortI (tg c t)) [] (sortI_sorted' _) List.Pairwise.nil (fun x h => nomatch h)
  refine ⟨this.1, fun x => ?_⟩
  unfold tgL
  rw [this.2]
  simp [(sortI_perm' (tg c t)).mem_iff]
theorem F_jump {c : List I} {t : List Row} (hc : c.length ≤ listLine) (ht : t.length ≤ listLine) (h : (tg c t).length < 64) : F_jump_targets [.val (encC c), .val (encT t)] = some (iL (tgL c t)) := by
  have hlen : ((c.filter fun x => x.1.isJ).map (·.2)).length + (t.map (·.2)).length < 64 := by
    unfold tg at h; simpa using h
  have hsl : (sortI (tg c t)).length < 64 := by rw [(sortI_perm' _).length_eq]; exact h
  obtain ⟨X', e⟩ := loop_dd (.val (encC c)) (.val (encT t)) (.val (iL (tg c t))) (sortI (tg c t)) [] .no (by simp [listLine]; omega)
  have h1 : ((c.filter fun x => x.1.isJ).map (·.2)).length + (t.map (·.2)).length ≤ listLine := by simp only [listLine]; omega
  unfold F_jump_targets
  refine run_ret rfl ?_
  show D_jump_targets [.val (encC c), .val (encT t), .no, .no, .no] = _
  unfold D_jump_targets
  have l1 : lComp 2 [] (unpackTo [0, 1]) (items (dName 0)) (b2 vIn (dName 0) (dTup [(dLit (.str "JUMP")), (dLit (.str "JZ"))])) (dName 1) [.val (encC c), .val (encT t), .no, .no, .no] = some (((c.filter fun x => x.1.isJ).map (·.2)).map .int) := by
    show (if (c.map encI).length ≤ listLine then comp _ _ _ [.no, .no] (c.map encI) else none) = _
    rw [if_pos (by simpa using hc), comp_jumps]
  rw [seq_next (own_of l1)]
  have l2 : lComp 1 [] (toOne 0) (items (dName 1)) bTrue (d2 vItem (dName 0) (dLit (.int 3))) [.val (encC c), .val (encT t), .own (((c.filter fun x => x.1.isJ).map (·.2)).map .int), .no, .no] = some ((t.map (·.2)).map .int) := by
    show (if (t.map encR).length ≤ listLine then comp _ _ _ [.no] (t.map encR) else none) = _
    rw [if_pos (by simpa using ht), comp_rows]
  have l3 : sExtend 2 (dComp (lComp 1 [] (toOne 0) (items (dName 1)) bTrue (d2 vItem (dName 0) (dLit (.int 3))))) [.val (encC c), .val (encT t), .own (((c.filter fun x => x.1.isJ).map (·.2)).map .int), .no, .no] = some (.next [.val (encC c), .val (encT t), .own ((tg c t).map .int), .no, .no]) := by
    unfold sExtend dComp
    rw [l2]
    simp only [Option.map_some, List.getElem?_cons_zero, List.getElem?_cons_succ, List.length_map]
    rw [if_pos (by simpa using h1)]
    simp [tg]
  show sSeq _ [.val (encC c), .val (encT t), .own (((c.filter fun x => x.1.isJ).map (·.2)).map .int), .no, .no] = _
  rw [seq_next l3, seq_next (σ' := [.val (encC c), .val (encT t), .own ((tg c t).map .int), .own [], .no]) rfl, seq_next (σ' := [.val (encC c), .val (encT t), .val (iL (tg c t)), .own [], .no]) rfl]
  have hv : vSorted (iL (tg c t)) = some (iL (sortI (tg c t))) := by
    simp only [iL, vSorted, intsOf_map]
    rw [if_pos h]
  have l4 : items (d1 vSorted (dName 2)) [.val (encC c), .val (encT t), .val (iL (tg c t)), .own [], .no] = some ((sortI (tg c t)).map .int) := by
    show (match vSorted (iL (tg c t)) with | some (.list xs) => some xs | some (.tuple xs) => some xs | _ => none) = _
    rw [hv]; rfl
  refine (seq_next (for_of l4 e)).trans ?_
  rfl
end Mine
end
section
namespace Mine
open PySem
open PySem.SeqAt (shaped)
/-! ### how large the numbers get -/
noncomputable def bt (a : Int) : Nat := if a = 0 then 0 else a.natAbs.log2 + 1
theorem bt_lt (a : Int) : a.natAbs < 2 ^ bt a := by
  unfold bt
  split
  · rename_i h; subst h; decide
  · exact Nat.lt_log2_self
theorem bt_le {a : Int} {k : Nat} (h : a.natAbs < 2 ^ k) : bt a ≤ k := by
  unfold bt
  split
  · omega
  · rename_i h0
    have := (Nat.log2_lt (n := a.natAbs) (k := k) (by omega)).mpr h
    omega
theorem fac_bt {a : Int} (h : bt a ≤ 2 ^ 25) : Fac a := by
  unfold bt at h
  split at h
  · rename_i e; subst e; show Nat.log2 0 < 2 ^ 25; decide
  · show a.natAbs.log2 < 2 ^ 25; omega
theorem pow_add_le (x y : Nat) : 2 ^ x + 2 ^ y ≤ 2 ^ (x + y + 1) := by
  have h1 : 2 ^ x ≤ 2 ^ (x + y) := Nat.pow_le_pow_right (by decide) (by omega)
  have h2 : 2 ^ y ≤ 2 ^ (x + y) := Nat.pow_le_pow_right (by decide) (by omega)
  rw [Nat.pow_succ]; omega
theorem bt_neg (a : Int) : bt (-a) = bt a := by unfold bt; simp
theorem bt_b01 (c : Bool) : bt (b01 c) ≤ 1 := by cases c <;> decide
theorem bt_sum {a b c : Int} (h : c.natAbs ≤ a.natAbs + b.natAbs) : bt c ≤ bt a + bt b + 1 := by
  refine bt_le ?_
  have h1 := bt_lt a
  have h2 := bt_lt b
  have h3 := pow_add_le (bt a) (bt b)
  omega
theorem bt_val (o : B) (a b : Int) (h : noVal o b = false) : bt (o.val a b) ≤ bt a + bt b + 1 := by
  have hc : ∀ c : Bool, bt (b01 c) ≤ bt a + bt b + 1 := fun c => Nat.le_trans (bt_b01 c) (by omega)
  cases o with
  | add => exact bt_sum (by simp only [B.val]; omega)
  | sub => exact bt_sum (by simp only [B.val]; omega)
  | mul =>
    refine Nat.le_trans (bt_le (k := bt a + bt b) ?_) (by omega)
    simp only [B.val, Int.natAbs_mul, Nat.pow_add]
    exact Nat.mul_lt_mul_of_lt_of_lt (bt_lt a) (bt_lt b)
  | div =>
    have hb : b ≠ 0 := by simpa [noVal, B.dm] using h
    have h1 : (a.fdiv b).natAbs ≤ a.natAbs + 1 := by
      rw [Int.fdiv_eq_ediv]
      have := Int.natAbs_ediv_le_natAbs a b
      split <;> omega
    refine bt_sum (a := a) (b := b) ?_
    simp only [B.val]
    have : 1 ≤ b.natAbs := by omega
    omega
  | mod =>
    have hb : b ≠ 0 := by simpa [noVal, B.dm] using h
    refine Nat.le_trans (bt_le (k := bt b + 1) ?_) (by omega)
    simp only [B.val]
    have h1 : (a.fmod b).natAbs ≤ 2 * b.natAbs := by
      rw [Int.fmod_eq_emod]
      have h2 := Int.emod_nonneg a hb
      have h3 : a % b < (b.natAbs : Int) := by
        rcases Int.lt_or_gt_of_ne hb with hb' | hb'
        · have := Int.emod_lt_of_pos a (b := -b) (by omega)
          rw [Int.emod_neg] at this; omega
        · have := Int.emod_lt_of_pos a hb'; omega
      split <;> omega
    have h2 := bt_lt b
    rw [Nat.pow_succ]; omega
  | lt => exact hc _
  | le => exact hc _
  | eq => exact hc _
  | ne => exact hc _
  | gt => exact hc _
  | ge => exact hc _
noncomputable def wt (x : I) : Nat := if x.1 = .nop then 0 else bt x.2 + 1
noncomputable def ws : List I → Nat
  | [] => 0
  | x :: r => wt x + ws r
theorem ws_append : ∀ (a b : List I), ws (a ++ b) = ws a + ws b
  | [], b => by simp [ws]
  | x :: a, b => by simp [ws, ws_append a b]; omega
theorem ws_mem {x : I} : ∀ {l : List I}, x ∈ l → wt x ≤ ws l
  | y :: r, h => by
    rcases List.mem_cons.mp h with e | h
    · subst e; simp [ws]
    · have := ws_mem h; simp [ws]; omega
theorem una_bt {a z : Int} {y : I} (h : una a y.1 = some z) : bt z + 1 ≤ bt a + 1 + wt y := by
  obtain ⟨o, c⟩ := y
  unfold una at h
  unfold wt
  split at h
  · cases h; rename_i e; simp only at e; subst e; rw [bt_neg]; simp
  · cases h; rename_i e; simp only at e; subst e
    have := bt_b01 (decide (a = 0))
    simp; omega
  · cases h
theorem stp_ws (t : Nat → Bool) (i : Nat) (x : I) (r : List I) : ws (stp t i x r).2 ≤ ws (x :: r) := by
  cases r with
  | nil => simp [stp, ws]
  | cons y r =>
    rw [stp]
    split
    · rename_i hc
      split
      · rename_i z hz
        have := una_bt hz
        simp only [ws]
        simp only [wt, hc.1]
        simp [wt] at this ⊢
        omega
      · split
        · rename_i q hq
          obtain ⟨o, c, e, h1, h2, h3, h4⟩ := bin2_some hq
          subst e
          have := bt_val o x.2 y.2 h3
          simp only [ws, wt, hc.1, h1, h4]
          simp
          omega
        · simp [ws]
    · simp [ws]
end Mine
end
section
namespace Mine
open PySem
open PySem.SeqAt (shaped)
theorem idx_nat {n k : Nat} (h : k < n) (hn : n ≤ listLine) : idxOf n (k : Int) = some k := by
  unfold idxOf
  rw [if_pos hn, if_pos (by omega), if_pos (by omega)]
  simp
theorem item_get {cur : List I} {k : Nat} {x : I} (h : cur[k]? = some x) (hn : cur.length ≤ listLine) : vItem (.list (cur.map encI)) (.int (k : Int)) = some (encI x) := by
  have hk := (List.getElem?_eq_some_iff.mp h).1
  simp only [vItem, List.length_map, idx_nat hk hn, List.getElem?_map, h, Option.map_some]
theorem set_of {i : Nat} {kE eE : DE} {σ : St} {d : PyData} {k : Nat} {xs : List PyData} (he : eE σ = some d) (hk : kE σ = some (.int (k : Int))) (h3 : σ[i]? = some (.own xs)) (h1 : k < xs.length) (h2 : xs.length ≤ listLine) :
    sSetItem i kE eE σ = some (.next (σ.set i (.own (xs.set k d)))) := by
  unfold sSetItem
  rw [he, hk, h3]
  simp only
  rw [if_pos ⟨⟨by omega, by omega⟩, h2⟩]
  simp
theorem set_code {cur : List I} {k : Nat} {z : I} : (cur.map encI).set k (encI z) = (cur.set k z).map encI := by rw [List.map_set]
theorem nat_succ (i : Nat) : ((i : Int) + 1) = ((i + 1 : Nat) : Int) := by omega
theorem nat_succ2 (i : Nat) : ((i : Int) + 2) = ((i + 2 : Nat) : Int) := by omega
noncomputable def Goes (o : Option Out) (σ : St) : Prop := o = some (.next σ) ∨ o = some (.cont σ)
theorem loop_goes {tgt : PyData → St → Option St} {body : DS} {x : PyData} {r : List PyData} {σ σ₁ σ₂ : St} (h1 : tgt x σ = some σ₁) (h2 : Goes (body σ₁) σ₂) : loop tgt body (x :: r) σ = loop tgt body r σ₂ := by
  rcases h2 with h | h
  · exact loop_next h1 h
  · exact loop_cont h1 h
noncomputable def bodyFold : DS := (sSeq [sUnpack [5, 6] (dOwnItem 3 (dName 4)),
        sIf (bOr [(b2 vNe (dName 5) (dLit (.str "PUSH"))), (b2 vIn (d2 vAdd (dName 4) (dLit (.int 1))) (dName 2))]) (sSeq [sCont]) (sSeq []),
        sUnpack [7, 8] (dOwnItem 3 (d2 vAdd (dName 4) (dLit (.int 1)))),
        sIf (b2 vEq (dName 7) (dLit (.str "NEG"))) (sSeq [sSetItem 3 (dName 4) (dTup [(dLit (.str "NOP")), (dLit (.int 0))]),
            sSetItem 3 (d2 vAdd (dName 4) (dLit (.int 1))) (dTup [(dLit (.str "PUSH")), (d1 vNeg (dName 6))])]) (sSeq [sIf (b2 vEq (dName 7) (dLit (.str "NOT"))) (sSeq [sSetItem 3 (dName 4) (dTup [(dLit (.str "NOP")), (dLit (.int 0))]),
                sSetItem 3 (d2 vAdd (dName 4) (dLit (.int 1))) (dTup [(dLit (.str "PUSH")), (dIte (b2 vEq (dName 6) (dLit (.int 0))) (dLit (.int 1)) (dLit (.int 0)))])]) (sSeq [sIf (bAnd [(b2 vEq (dName 7) (dLit (.str "PUSH"))), (b2 vLt (d2 vAdd (dName 4) (dLit (.int 2))) (dOwnLen 3)), (b2 vNotIn (d2 vAdd (dName 4) (dLit (.int 2))) (dName 2))]) (sSeq [sLet 9 (d2 vItem (dOwnItem 3 (d2 vAdd (dName 4) (dLit (.int 2)))) (dLit (.int 0))),
                    sIf (bAnd [(bHas (dName 9) (dKvs signOf)), (bNot (bAnd [(b2 vIn (dName 9) (dTup [(dLit (.str "DIV")), (dLit (.str "MOD"))])), (b2 vEq (dName 8) (dLit (.int 0)))]))]) (sSeq [sSetItem 3 (dName 4) (dTup [(dLit (.str "NOP")), (dLit (.int 0))]),
                        sSetItem 3 (d2 vAdd (dName 4) (dLit (.int 1))) (dTup [(dLit (.str "NOP")), (dLit (.int 0))]),
                        sSetItem 3 (d2 vAdd (dName 4) (dLit (.int 2))) (dTup [(dLit (.str "PUSH")), (dCall F_apply_binary [(aVal (dTab (dKvs signOf) (dName 9))), (aVal (dName 6)), (aVal (dName 8))])])]) (sSeq [])]) (sSeq [])])])])
/-- one turn of the folding loop -/
theorem fold_turn {A Bs s5 s6 s7 s8 s9 : Slot} {T : List Int} {t : Nat → Bool} (hT : ∀ j : Nat, decide ((j : Int) ∈ T) = t j) {pre r : List I} {x y : I} {i : Nat} (hi : pre.length = i) (hn : (pre ++ x :: y :: r).length ≤ listLine) (hw : ws (x :: y :: r) ≤ 2 ^ 25) :
    ∃ t5 t6 t7 t8 t9, Goes (bodyFold [A, Bs, .val (iL T), .own ((pre ++ x :: y :: r).map encI), .val (.int (i : Int)), s5, s6, s7, s8, s9])
      [A, Bs, .val (iL T), .own ((pre ++ (stp t i x (y :: r)).1 :: (stp t i x (y :: r)).2).map encI), .val (.int (i : Int)), t5, t6, t7, t8, t9] := by
  have g0 : (pre ++ x :: y :: r)[i]? = some x := by rw [← hi]; simp
  have g1 : (pre ++ x :: y :: r)[i + 1]? = some y := by rw [← hi]; simp
  have hlen : i + 1 < (pre ++ x :: y :: r).length := by simp; omega
  generalize hcur : pre ++ x :: y :: r = cur at *
  have e1 : dOwnItem 3 (dName 4) [A, Bs, .val (iL T), .own (cur.map encI), .val (.int (i : Int)), s5, s6, s7, s8, s9] = some (encI x) := item_get g0 hn
  have u1 : sUnpack [5, 6] (dOwnItem 3 (dName 4)) [A, Bs, .val (iL T), .own (cur.map encI), .val (.int (i : Int)), s5, s6, s7, s8, s9] = some (.next [A, Bs, .val (iL T), .own (cur.map encI), .val (.int (i : Int)), .val (.str x.1.enc), .val (.int x.2), s7, s8, s9]) := unpack_of e1 rfl
  have c1 : bOr [(b2 vNe (dName 5) (dLit (.str "PUSH"))), (b2 vIn (d2 vAdd (dName 4) (dLit (.int 1))) (dName 2))] [A, Bs, .val (iL T), .own (cur.map encI), .val (.int (i : Int)), .val (.str x.1.enc), .val (.int x.2), s7, s8, s9] = some (!decide (x.1 = .push) || t (i + 1)) := by
    have a1 : (b2 vNe (dName 5) (dLit (.str "PUSH"))) [A, Bs, .val (iL T), .own (cur.map encI), .val (.int (i : Int)), .val (.str x.1.enc), .val (.int x.2), s7, s8, s9] = some (!decide (x.1 = .push)) := vNe_op x.1 .push
    have a2 : (b2 vIn (d2 vAdd (dName 4) (dLit (.int 1))) (dName 2)) [A, Bs, .val (iL T), .own (cur.map encI), .val (.int (i : Int)), .val (.str x.1.enc), .val (.int x.2), s7, s8, s9] = some (t (i + 1)) := by
      show vIn (.int ((i : Int) + 1)) (.list (T.map .int)) = _
      rw [vIn_int, nat_succ, hT]
    simp only [bOr, a1, a2]
    cases decide (x.1 = .push) <;> cases t (i + 1) <;> rfl
  by_cases hc : x.1 = .push ∧ t (i + 1) = false
  · obtain ⟨hx, ht⟩ := hc
    have c1' : sIf (bOr [(b2 vNe (dName 5) (dLit (.str "PUSH"))), (b2 vIn (d2 vAdd (dName 4) (dLit (.int 1))) (dName 2))]) (sSeq [sCont]) (sSeq []) [A, Bs, .val (iL T), .own (cur.map encI), .val (.int (i : Int)), .val (.str x.1.enc), .val (.int x.2), s7, s8, s9] = some (.next [A, Bs, .val (iL T), .own (cur.map encI), .val (.int (i : Int)), .val (.str x.1.enc), .val (.int x.2), s7, s8, s9]) := by
      rw [if_f (by rw [c1]; simp [hx, ht])]; rfl
    have e2 : dOwnItem 3 (d2 vAdd (dName 4) (dLit (.int 1))) [A, Bs, .val (iL T), .own (cur.map encI), .val (.int (i : Int)), .val (.str x.1.enc), .val (.int x.2), s7, s8, s9] = some (encI y) := by
      show vItem (.list (cur.map encI)) (.int ((i : Int) + 1)) = _
      rw [nat_succ]; exact item_get g1 hn
    have u2 : sUnpack [7, 8] (dOwnItem 3 (d2 vAdd (dName 4) (dLit (.int 1)))) [A, Bs, .val (iL T), .own (cur.map encI), .val (.int (i : Int)), .val (.str x.1.enc), .val (.int x.2), s7, s8, s9] = some (.next [A, Bs, .val (iL T), .own (cur.map encI), .val (.int (i : Int)), .val (.str x.1.enc), .val (.int x.2), .val (.str y.1.enc), .val (.int y.2), s9]) := unpack_of e2 rfl
    have q1 : ∀ (c : List I) (u : Slot), sSetItem 3 (dName 4) (dTup [(dLit (.str "NOP")), (dLit (.int 0))]) [A, Bs, .val (iL T), .own (c.map encI), .val (.int (i : Int)), .val (.str x.1.enc), .val (.int x.2), .val (.str y.1.enc), .val (.int y.2), u] = (if i < c.length ∧ c.length ≤ listLine then some (.next [A, Bs, .val (iL T), .own ((c.set i (.nop, 0)).map encI), .val (.int (i : Int)), .val (.str x.1.enc), .val (.int x.2), .val (.str y.1.enc), .val (.int y.2), u]) else none) := by
      intro c u
      by_cases hcl : i < c.length ∧ c.length ≤ listLine
      · rw [if_pos hcl, set_of (d := encI (.nop, 0)) (k := i) (xs := c.map encI) rfl rfl rfl (by simpa using hcl.1) (by simpa using hcl.2), set_code]; rfl
      · rw [if_neg hcl]
        show (if ((0 : Int) ≤ (i : Int) ∧ (i : Int) < ((c.map encI).length : Int)) ∧ (c.map encI).length ≤ listLine then _ else none) = _
        rw [if_neg]
        simp only [List.length_map]
        intro hh
        exact hcl ⟨by omega, hh.2⟩
    have q2 : ∀ (c : List I) (u : Slot) (eE : DE) (z : I), i + 1 < c.length → c.length ≤ listLine → eE [A, Bs, .val (iL T), .own (c.map encI), .val (.int (i : Int)), .val (.str x.1.enc), .val (.int x.2), .val (.str y.1.enc), .val (.int y.2), u] = some (encI z) →
        sSetItem 3 (d2 vAdd (dName 4) (dLit (.int 1))) eE [A, Bs, .val (iL T), .own (c.map encI), .val (.int (i : Int)), .val (.str x.1.enc), .val (.int x.2), .val (.str y.1.enc), .val (.int y.2), u] = some (.next [A, Bs, .val (iL T), .own ((c.set (i + 1) z).map encI), .val (.int (i : Int)), .val (.str x.1.enc), .val (.int x.2), .val (.str y.1.enc), .val (.int y.2), u]) := by
      intro c u eE z h1 h2 he
      rw [set_of (d := encI z) (k := i + 1) (xs := c.map encI) he (by show some (PyData.int ((i : Int) + 1)) = _; rw [nat_succ]) rfl (by simpa using h1) (by simpa using h2), set_code]; rfl
    have q3 : ∀ (c : List I) (u : Slot) (eE : DE) (z : I), i + 2 < c.length → c.length ≤ listLine → eE [A, Bs, .val (iL T), .own (c.map encI), .val (.int (i : Int)), .val (.str x.1.enc), .val (.int x.2), .val (.str y.1.enc), .val (.int y.2), u] = some (encI z) →
        sSetItem 3 (d2 vAdd (dName 4) (dLit (.int 2))) eE [A, Bs, .val (iL T), .own (c.map encI), .val (.int (i : Int)), .val (.str x.1.enc), .val (.int x.2), .val (.str y.1.enc), .val (.int y.2), u] = some (.next [A, Bs, .val (iL T), .own ((c.set (i + 2) z).map encI), .val (.int (i : Int)), .val (.str x.1.enc), .val (.int x.2), .val (.str y.1.enc), .val (.int y.2), u]) := by
      intro c u eE z h1 h2 he
      rw [set_of (d := encI z) (k := i + 2) (xs := c.map encI) he (by show some (PyData.int ((i : Int) + 2)) = _; rw [nat_succ2]) rfl (by simpa using h1) (by simpa using h2), set_code]; rfl
    have hi' : i < cur.length := by omega
    have hset1 : ∀ z, ((cur.set i (.nop, 0)).set (i + 1) z) = pre ++ (.nop, 0) :: z :: r := by
      intro z; rw [← hcur, ← hi]; simp
    have v1 : (b2 vEq (dName 7) (dLit (.str "NEG"))) [A, Bs, .val (iL T), .own (cur.map encI), .val (.int (i : Int)), .val (.str x.1.enc), .val (.int x.2), .val (.str y.1.enc), .val (.int y.2), s9] = some (decide (y.1 = .neg)) := vEq_op y.1 .neg
    have v2 : (b2 vEq (dName 7) (dLit (.str "NOT"))) [A, Bs, .val (iL T), .own (cur.map encI), .val (.int (i : Int)), .val (.str x.1.enc), .val (.int x.2), .val (.str y.1.enc), .val (.int y.2), s9] = some (decide (y.1 = .not)) := vEq_op y.1 .not
    have v3 : (b2 vEq (dName 7) (dLit (.str "PUSH"))) [A, Bs, .val (iL T), .own (cur.map encI), .val (.int (i : Int)), .val (.str x.1.enc), .val (.int x.2), .val (.str y.1.enc), .val (.int y.2), s9] = some (decide (y.1 = .push)) := vEq_op y.1 .push
    unfold bodyFold
    rw [seq_next u1, seq_next c1', seq_next u2]
    by_cases hneg : y.1 = .neg
    · have hs : stp t i x (y :: r) = ((.nop, 0), (.push, -x.2) :: r) := by simp [stp, hx, ht, hneg, una]
      rw [hs]
      refine ⟨.val (.str x.1.enc), .val (.int x.2), .val (.str y.1.enc), .val (.int y.2), s9, .inl ?_⟩
      refine (seq_next (σ' := [A, Bs, .val (iL T), .own (((cur.set i (.nop, 0)).set (i + 1) (.push, -x.2)).map encI), .val (.int (i : Int)), .val (.str x.1.enc), .val (.int x.2), .val (.str y.1.enc), .val (.int y.2), s9]) ?_).trans (by rw [hset1]; rfl)
      rw [if_t (by rw [v1]; simp [hneg]), seq_next (by rw [q1, if_pos ⟨hi', hn⟩]), seq_next (q2 _ _ _ (.push, -x.2) (by simpa using hlen) (by simpa using hn) rfl)]
      rfl
    · by_cases hnot : y.1 = .not
      · have hs : stp t i x (y :: r) = ((.nop, 0), (.push, b01 (decide (x.2 = 0))) :: r) := by simp [stp, hx, ht, hnot, una]
        rw [hs]
        refine ⟨.val (.str x.1.enc), .val (.int x.2), .val (.str y.1.enc), .val (.int y.2), s9, .inl ?_⟩
        refine (seq_next (σ' := [A, Bs, .val (iL T), .own (((cur.set i (.nop, 0)).set (i + 1) (.push, b01 (decide (x.2 = 0)))).map encI), .val (.int (i : Int)), .val (.str x.1.enc), .val (.int x.2), .val (.str y.1.enc), .val (.int y.2), s9]) ?_).trans (by rw [hset1]; rfl)
        rw [if_f (by rw [v1]; simp [hneg])]
        refine (seq_next (σ' := [A, Bs, .val (iL T), .own (((cur.set i (.nop, 0)).set (i + 1) (.push, b01 (decide (x.2 = 0)))).map encI), .val (.int (i : Int)), .val (.str x.1.enc), .val (.int x.2), .val (.str y.1.enc), .val (.int y.2), s9]) ?_).trans rfl
        rw [if_t (by rw [v2]; simp [hnot]), seq_next (by rw [q1, if_pos ⟨hi', hn⟩]), seq_next (q2 _ _ _ (.push, b01 (decide (x.2 = 0))) (by simpa using hlen) (by simpa using hn) ?_)]
        · rfl
        · have hb : (b2 vEq (dName 6) (dLit (.int 0))) [A, Bs, .val (iL T), .own ((cur.set i (.nop, 0)).map encI), .val (.int (i : Int)), .val (.str x.1.enc), .val (.int x.2), .val (.str y.1.enc), .val (.int y.2), s9] = some (decide (x.2 = 0)) := vEq_int x.2 0
          have hd : (dIte (b2 vEq (dName 6) (dLit (.int 0))) (dLit (.int 1)) (dLit (.int 0))) [A, Bs, .val (iL T), .own ((cur.set i (.nop, 0)).map encI), .val (.int (i : Int)), .val (.str x.1.enc), .val (.int x.2), .val (.str y.1.enc), .val (.int y.2), s9] = some (.int (b01 (decide (x.2 = 0)))) := by
            unfold dIte; rw [hb]; cases decide (x.2 = 0) <;> rfl
          unfold dTup dAll dAll dAll
          rw [hd]; rfl
      · have hu : una x.2 y.1 = none := by
          cases hy : y.1 <;> simp_all [una]
        have c3 : bAnd [(b2 vEq (dName 7) (dLit (.str "PUSH"))), (b2 vLt (d2 vAdd (dName 4) (dLit (.int 2))) (dOwnLen 3)), (b2 vNotIn (d2 vAdd (dName 4) (dLit (.int 2))) (dName 2))] [A, Bs, .val (iL T), .own (cur.map encI), .val (.int (i : Int)), .val (.str x.1.enc), .val (.int x.2), .val (.str y.1.enc), .val (.int y.2), s9] = some (decide (y.1 = .push) && (decide (i + 2 < cur.length) && !t (i + 2))) := by
          have a2 : (b2 vLt (d2 vAdd (dName 4) (dLit (.int 2))) (dOwnLen 3)) [A, Bs, .val (iL T), .own (cur.map encI), .val (.int (i : Int)), .val (.str x.1.enc), .val (.int x.2), .val (.str y.1.enc), .val (.int y.2), s9] = some (decide (i + 2 < cur.length)) := by
            show (match vLen (.list (cur.map encI)) with | some y => vLt (.int ((i : Int) + 2)) y | none => none) = _
            have : vLen (.list (cur.map encI)) = some (.int (cur.length : Int)) := by simp [vLen, hn]
            rw [this]
            show some (decide ((i : Int) + 2 < (cur.length : Int))) = _
            rw [nat_succ2]; simp only [Int.ofNat_lt]
          have a3 : (b2 vNotIn (d2 vAdd (dName 4) (dLit (.int 2))) (dName 2)) [A, Bs, .val (iL T), .own (cur.map encI), .val (.int (i : Int)), .val (.str x.1.enc), .val (.int x.2), .val (.str y.1.enc), .val (.int y.2), s9] = some (!t (i + 2)) := by
            show (vIn (.int ((i : Int) + 2)) (.list (T.map .int))).map (! ·) = _
            rw [vIn_int, nat_succ2, hT]; rfl
          simp only [bAnd, v3, a2, a3]
          cases decide (y.1 = .push) <;> cases decide (i + 2 < cur.length) <;> cases t (i + 2) <;> rfl
        by_cases hp : y.1 = .push ∧ i + 2 < cur.length ∧ t (i + 2) = false
        · obtain ⟨hy, hl2, ht2⟩ := hp
          cases r with
          | nil => rw [← hcur] at hl2; simp at hl2; omega
          | cons z r =>
            have g2 : cur[i + 2]? = some z := by rw [← hcur, ← hi]; simp
            have e3 : (d2 vItem (dOwnItem 3 (d2 vAdd (dName 4) (dLit (.int 2)))) (dLit (.int 0))) [A, Bs, .val (iL T), .own (cur.map encI), .val (.int (i : Int)), .val (.str x.1.enc), .val (.int x.2), .val (.str y.1.enc), .val (.int y.2), s9] = some (.str z.1.enc) := by
              show (match vItem (.list (cur.map encI)) (.int ((i : Int) + 2)) with | some x => vItem x (.int 0) | none => none) = _
              rw [nat_succ2, item_get g2 hn]
              simp [encI, vItem, idxOf, listLine]
            have c4 : bAnd [(bHas (dName 9) (dKvs signOf)), (bNot (bAnd [(b2 vIn (dName 9) (dTup [(dLit (.str "DIV")), (dLit (.str "MOD"))])), (b2 vEq (dName 8) (dLit (.int 0)))]))] [A, Bs, .val (iL T), .own (cur.map encI), .val (.int (i : Int)), .val (.str x.1.enc), .val (.int x.2), .val (.str y.1.enc), .val (.int y.2), .val (.str z.1.enc)] = some (z.1.isB && !(decide (z.1 = .bin .div ∨ z.1 = .bin .mod) && decide (y.2 = 0))) := by
              have a1 : (bHas (dName 9) (dKvs signOf)) [A, Bs, .val (iL T), .own (cur.map encI), .val (.int (i : Int)), .val (.str x.1.enc), .val (.int x.2), .val (.str y.1.enc), .val (.int y.2), .val (.str z.1.enc)] = some z.1.isB := by
                show some (signOf.lookup z.1.enc).isSome = _
                cases hz : z.1.isB with
                | false => rw [signOf_none hz]; rfl
                | true =>
                  cases hz1 : z.1 with
                  | bin b => rw [signOf_bin]; rfl
                  | _ => rw [hz1] at hz; cases hz
              have a2 : (b2 vIn (dName 9) (dTup [(dLit (.str "DIV")), (dLit (.str "MOD"))])) [A, Bs, .val (iL T), .own (cur.map encI), .val (.int (i : Int)), .val (.str x.1.enc), .val (.int x.2), .val (.str y.1.enc), .val (.int y.2), .val (.str z.1.enc)] = some (decide (z.1 = .bin .div ∨ z.1 = .bin .mod)) := vIn_dm z.1
              have a3 : (b2 vEq (dName 8) (dLit (.int 0))) [A, Bs, .val (iL T), .own (cur.map encI), .val (.int (i : Int)), .val (.str x.1.enc), .val (.int x.2), .val (.str y.1.enc), .val (.int y.2), .val (.str z.1.enc)] = some (decide (y.2 = 0)) := vEq_int y.2 0
              simp only [bAnd, bNot, a1, a2, a3]
              cases z.1.isB <;> cases decide (z.1 = .bin .div ∨ z.1 = .bin .mod) <;> cases decide (y.2 = 0) <;> rfl
            by_cases hb : ∃ o, z.1 = .bin o ∧ noVal o y.2 = false
            · obtain ⟨o, hz, hv⟩ := hb
              have hq : bin2 t i x y (z :: r) = some (o.val x.2 y.2, r) := by
                obtain ⟨zo, zc⟩ := z
                simp only at hz; subst hz
                simp [bin2, hy, ht2, hv]
              have hs : stp t i x (y :: z :: r) = ((.nop, 0), (.nop, 0) :: (.push, o.val x.2 y.2) :: r) := by simp only [stp, hx, ht, hu, hq, and_self, if_true]
              rw [hs]
              have hcan : Can o x.2 y.2 := by
                refine ⟨hv, fun ho => ?_⟩
                simp only [ws, wt, hx, hy] at hw
                simp at hw
                exact ⟨fac_bt (by omega), fac_bt (by omega)⟩
              have hset2 : (((cur.set i (.nop, 0)).set (i + 1) (.nop, 0)).set (i + 2) (.push, o.val x.2 y.2)) = pre ++ (.nop, 0) :: (.nop, 0) :: (.push, o.val x.2 y.2) :: r := by
                rw [← hcur, ← hi]; simp
              have cond4 : (z.1.isB && !(decide (z.1 = .bin .div ∨ z.1 = .bin .mod) && decide (y.2 = 0))) = true := by
                rw [hz]
                cases o <;> simp_all [Op.isB, noVal, B.dm]
              refine ⟨.val (.str x.1.enc), .val (.int x.2), .val (.str y.1.enc), .val (.int y.2), .val (.str z.1.enc), .inl ?_⟩
              refine (seq_next (σ' := [A, Bs, .val (iL T), .own ((((cur.set i (.nop, 0)).set (i + 1) (.nop, 0)).set (i + 2) (.push, o.val x.2 y.2)).map encI), .val (.int (i : Int)), .val (.str x.1.enc), .val (.int x.2), .val (.str y.1.enc), .val (.int y.2), .val (.str z.1.enc)]) ?_).trans (by rw [hset2]; rfl)
              rw [if_f (by rw [v1]; simp [hneg])]
              refine (seq_next (σ' := [A, Bs, .val (iL T), .own ((((cur.set i (.nop, 0)).set (i + 1) (.nop, 0)).set (i + 2) (.push, o.val x.2 y.2)).map encI), .val (.int (i : Int)), .val (.str x.1.enc), .val (.int x.2), .val (.str y.1.enc), .val (.int y.2), .val (.str z.1.enc)]) ?_).trans rfl
              rw [if_f (by rw [v2]; simp [hnot])]
              refine (seq_next (σ' := [A, Bs, .val (iL T), .own ((((cur.set i (.nop, 0)).set (i + 1) (.nop, 0)).set (i + 2) (.push, o.val x.2 y.2)).map encI), .val (.int (i : Int)), .val (.str x.1.enc), .val (.int x.2), .val (.str y.1.enc), .val (.int y.2), .val (.str z.1.enc)]) ?_).trans rfl
              rw [if_t (by rw [c3]; simp [hy, hl2, ht2]), seq_next (let_of e3)]
              refine (seq_next (σ' := [A, Bs, .val (iL T), .own ((((cur.set i (.nop, 0)).set (i + 1) (.nop, 0)).set (i + 2) (.push, o.val x.2 y.2)).map encI), .val (.int (i : Int)), .val (.str x.1.enc), .val (.int x.2), .val (.str y.1.enc), .val (.int y.2), .val (.str z.1.enc)]) ?_).trans rfl
              refine (if_t (by refine Eq.trans c4 ?_; rw [cond4])).trans ?_
              refine (seq_next ((q1 cur (.val (.str z.1.enc))).trans (if_pos ⟨hi', hn⟩))).trans ?_
              refine (seq_next (q2 _ _ _ (.nop, 0) (by simpa using hlen) (by simpa using hn) rfl)).trans ?_
              refine (seq_next (q3 _ _ _ (.push, o.val x.2 y.2) (by simpa using hl2) (by simpa using hn) ?_)).trans rfl
              have hcall : dCall F_apply_binary [(aVal (dTab (dKvs signOf) (dName 9))), (aVal (dName 6)), (aVal (dName 8))] [A, Bs, .val (iL T), .own (((cur.set i (.nop, 0)).set (i + 1) (.nop, 0)).map encI), .val (.int (i : Int)), .val (.str x.1.enc), .val (.int x.2), .val (.str y.1.enc), .val (.int y.2), .val (.str z.1.enc)] = some (.int (o.val x.2 y.2)) := by
                refine call_of (ds := [.val (.str o.sign), .val (.int x.2), .val (.int y.2)]) ?_ (F_apply hcan)
                have : dTab (dKvs signOf) (dName 9) [A, Bs, .val (iL T), .own (((cur.set i (.nop, 0)).set (i + 1) (.nop, 0)).map encI), .val (.int (i : Int)), .val (.str x.1.enc), .val (.int x.2), .val (.str y.1.enc), .val (.int y.2), .val (.str z.1.enc)] = some (.str o.sign) := by
                  show signOf.lookup z.1.enc = _
                  rw [hz]; exact signOf_bin o
                unfold aAll aVal
                rw [this]; rfl
              unfold dTup dAll dAll dAll
              rw [hcall]; rfl
            · have hq : bin2 t i x y (z :: r) = none := by
                cases hbb : bin2 t i x y (z :: r) with
                | none => rfl
                | some q =>
                  obtain ⟨o, c, e, h1, h2, h3, h4⟩ := bin2_some hbb
                  cases e
                  exact absurd ⟨o, rfl, h3⟩ hb
              have hs : stp t i x (y :: z :: r) = (x, y :: z :: r) := by simp only [stp, hx, ht, hu, hq, and_self, if_true]
              rw [hs]
              have cond4 : (z.1.isB && !(decide (z.1 = .bin .div ∨ z.1 = .bin .mod) && decide (y.2 = 0))) = false := by
                cases hz : z.1 with
                | bin o =>
                  have : noVal o y.2 = true := by
                    cases hv : noVal o y.2 with
                    | true => rfl
                    | false => exact absurd ⟨o, hz, hv⟩ hb
                  cases o <;> simp_all [Op.isB, noVal, B.dm]
                | _ => rfl
              refine ⟨.val (.str x.1.enc), .val (.int x.2), .val (.str y.1.enc), .val (.int y.2), .val (.str z.1.enc), .inl ?_⟩
              refine (seq_next (σ' := [A, Bs, .val (iL T), .own (cur.map encI), .val (.int (i : Int)), .val (.str x.1.enc), .val (.int x.2), .val (.str y.1.enc), .val (.int y.2), .val (.str z.1.enc)]) ?_).trans (by rw [hcur]; rfl)
              rw [if_f (by rw [v1]; simp [hneg])]
              refine (seq_next (σ' := [A, Bs, .val (iL T), .own (cur.map encI), .val (.int (i : Int)), .val (.str x.1.enc), .val (.int x.2), .val (.str y.1.enc), .val (.int y.2), .val (.str z.1.enc)]) ?_).trans rfl
              rw [if_f (by rw [v2]; simp [hnot])]
              refine (seq_next (σ' := [A, Bs, .val (iL T), .own (cur.map encI), .val (.int (i : Int)), .val (.str x.1.enc), .val (.int x.2), .val (.str y.1.enc), .val (.int y.2), .val (.str z.1.enc)]) ?_).trans rfl
              rw [if_t (by rw [c3]; simp [hy, hl2, ht2]), seq_next (let_of e3)]
              refine (seq_next (σ' := [A, Bs, .val (iL T), .own (cur.map encI), .val (.int (i : Int)), .val (.str x.1.enc), .val (.int x.2), .val (.str y.1.enc), .val (.int y.2), .val (.str z.1.enc)]) ?_).trans rfl
              refine (if_f (by refine Eq.trans c4 ?_; rw [cond4])).trans rfl
        · have hq : bin2 t i x y r = none := by
            cases hbb : bin2 t i x y r with
            | none => rfl
            | some q =>
              obtain ⟨o, c, e, h1, h2, h3, h4⟩ := bin2_some hbb
              refine absurd ⟨h1, ?_, h2⟩ hp
              rw [← hcur, e]; simp; omega
          have hs : stp t i x (y :: r) = (x, y :: r) := by simp only [stp, hx, ht, hu, hq, and_self, if_true]
          rw [hs]
          refine ⟨.val (.str x.1.enc), .val (.int x.2), .val (.str y.1.enc), .val (.int y.2), s9, .inl ?_⟩
          refine (seq_next (σ' := [A, Bs, .val (iL T), .own (cur.map encI), .val (.int (i : Int)), .val (.str x.1.enc), .val (.int x.2), .val (.str y.1.enc), .val (.int y.2), s9]) ?_).trans (by rw [hcur]; rfl)
          rw [if_f (by rw [v1]; simp [hneg])]
          refine (seq_next (σ' := [A, Bs, .val (iL T), .own (cur.map encI), .val (.int (i : Int)), .val (.str x.1.enc), .val (.int x.2), .val (.str y.1.enc), .val (.int y.2), s9]) ?_).trans rfl
          rw [if_f (by rw [v2]; simp [hnot])]
          refine (seq_next (σ' := [A, Bs, .val (iL T), .own (cur.map encI), .val (.int (i : Int)), .val (.str x.1.enc), .val (.int x.2), .val (.str y.1.enc), .val (.int y.2), s9]) ?_).trans rfl
          refine (if_f ?_).trans rfl
          rw [c3]
          congr 1
          cases hh : (decide (y.1 = .push) && (decide (i + 2 < cur.length) && !t (i + 2))) with
          | false => rfl
          | true =>
            simp only [Bool.and_eq_true, decide_eq_true_eq, Bool.not_eq_true'] at hh
            exact absurd ⟨hh.1, hh.2.1, hh.2.2⟩ hp
  · have hs : stp t i x (y :: r) = (x, y :: r) := by simp only [stp, if_neg hc]
    rw [hs, hcur]
    refine ⟨.val (.str x.1.enc), .val (.int x.2), s7, s8, s9, .inr ?_⟩
    unfold bodyFold
    rw [seq_next u1]
    refine seq_cont ?_
    rw [if_t ?_]
    · rfl
    · rw [c1]
      congr 1
      cases hh : (!decide (x.1 = .push) || t (i + 1)) with
      | true => rfl
      | false =>
        simp only [Bool.or_eq_false_iff, Bool.not_eq_false', decide_eq_true_eq] at hh
        exact absurd hh hc
/-- the loop -/
theorem fold_loop {A Bs : Slot} {T : List Int} {t : Nat → Bool} (hT : ∀ j : Nat, decide ((j : Int) ∈ T) = t j) : ∀ (k i : Nat) (pre rest : List I) (s4 s5 s6 s7 s8 s9 : Slot), pre.length = i → rest.length = k + 1 → (pre ++ rest).length ≤ listLine → ws rest ≤ 2 ^ 25 →
    ∃ t4 t5 t6 t7 t8 t9, loop (toOne 4) bodyFold ((iota (i : Int) k).map .int) [A, Bs, .val (iL T), .own ((pre ++ rest).map encI), s4, s5, s6, s7, s8, s9] = some (.next [A, Bs, .val (iL T), .own ((pre ++ F t i rest).map encI), t4, t5, t6, t7, t8, t9])
  | 0, i, pre, rest, s4, s5, s6, s7, s8, s9, hi, hr, hn, hw => by
    match rest, hr with
    | [x], _ => exact ⟨s4, s5, s6, s7, s8, s9, by rw [F_stp]; rfl⟩
  | k + 1, i, pre, rest, s4, s5, s6, s7, s8, s9, hi, hr, hn, hw => by
    match rest, hr with
    | x :: y :: r, hr =>
      obtain ⟨t5, t6, t7, t8, t9, hg⟩ := fold_turn (A := A) (Bs := Bs) (s5 := s5) (s6 := s6) (s7 := s7) (s8 := s8) (s9 := s9) hT (pre := pre) (r := r) (x := x) (y := y) hi hn hw
      have hl := stp_len t i x (y :: r)
      obtain ⟨u4, u5, u6, u7, u8, u9, e⟩ := fold_loop hT (A := A) (Bs := Bs) k (i + 1) (pre ++ [(stp t i x (y :: r)).1]) (stp t i x (y :: r)).2 (.val (.int (i : Int))) t5 t6 t7 t8 t9 (by simp [hi]) (by rw [hl]; simpa using hr) (by simp [hl] at hn ⊢; omega) (Nat.le_trans (stp_ws ..) hw)
      refine ⟨u4, u5, u6, u7, u8, u9, ?_⟩
      have hio : (iota (i : Int) (k + 1)).map PyData.int = .int (i : Int) :: (iota ((i + 1 : Nat) : Int) k).map .int := by
        simp only [iota, List.range_succ_eq_map, List.map_cons, List.map_map]
        simp [Function.comp_def]
        intro a _; omega
      rw [hio]
      refine (loop_goes rfl hg).trans ?_
      have e1 : pre ++ [(stp t i x (y :: r)).1] ++ (stp t i x (y :: r)).2 = pre ++ (stp t i x (y :: r)).1 :: (stp t i x (y :: r)).2 := by simp
      have e2 : pre ++ [(stp t i x (y :: r)).1] ++ F t (i + 1) (stp t i x (y :: r)).2 = pre ++ F t i (x :: y :: r) := by rw [F_stp t i x (y :: r)]; simp
      rw [e1, e2] at e
      exact e
theorem F_foldOk {c : List I} {tb : List Row} (hc : c.length < 2 ^ 19) (ht : tb.length ≤ listLine) (h : (tg c tb).length < 64) (hw : ws c ≤ 2 ^ 25) : F_fold_once [.val (encC c), .val (encT tb)] = some (encC (fold c tb)) := by
  have hcl : c.length ≤ listLine := by unfold listLine; omega
  have hT : ∀ j : Nat, decide ((j : Int) ∈ tgL c tb) = tgs (tg c tb) j := fun j => by
    unfold tgs
    rw [Bool.eq_iff_iff]
    simp only [decide_eq_true_eq]
    exact (tgL_ok c tb).2 _
  unfold F_fold_once
  refine run_ret rfl ?_
  show D_fold_once [.val (encC c), .val (encT tb), .no, .no, .no, .no, .no, .no, .no, .no] = _
  unfold D_fold_once
  rw [seq_next (let_of (call_of (ds := [.val (encC c), .val (encT tb)]) rfl (F_jump hcl ht h)))]
  have l1 : listOfD (dName 0) [.val (encC c), .val (encT tb), .val (iL (tgL c tb)), .no, .no, .no, .no, .no, .no, .no] = some (c.map encI) := by
    simp [listOfD, dName, encC, hcl]
  refine (seq_next (own_of l1)).trans ?_
  show sSeq _ [.val (encC c), .val (encT tb), .val (iL (tgL c tb)), .own (c.map encI), .no, .no, .no, .no, .no, .no] = _
  have hvl : vLen (.list (c.map encI)) = some (.int (c.length : Int)) := by simp [vLen, hcl]
  have l2 : rangeTo (d2 vSub (dOwnLen 3) (dLit (.int 1))) [.val (encC c), .val (encT tb), .val (iL (tgL c tb)), .own (c.map encI), .no, .no, .no, .no, .no, .no] = some ((iota 0 ((c.length : Int) - 1).toNat).map .int) := by
    have h0 : (d2 vSub (dOwnLen 3) (dLit (.int 1))) [.val (encC c), .val (encT tb), .val (iL (tgL c tb)), .own (c.map encI), .no, .no, .no, .no, .no, .no] = some (.int ((c.length : Int) - 1)) := by
      show (match vLen (.list (c.map encI)) with | some x => vSub x (.int 1) | none => none) = _
      rw [hvl]; rfl
    unfold rangeTo
    rw [h0]
    simp only
    rw [if_pos (by omega)]
  have key : ∃ t4 t5 t6 t7 t8 t9, loop (toOne 4) bodyFold ((iota 0 ((c.length : Int) - 1).toNat).map .int) [.val (encC c), .val (encT tb), .val (iL (tgL c tb)), .own (c.map encI), .no, .no, .no, .no, .no, .no] = some (.next [.val (encC c), .val (encT tb), .val (iL (tgL c tb)), .own ((fold c tb).map encI), t4, t5, t6, t7, t8, t9]) := by
    cases hcc : c with
    | nil =>
      refine ⟨.no, .no, .no, .no, .no, .no, ?_⟩
      have : fold ([] : List I) tb = [] := by unfold fold; rw [F_nil]
      rw [this]; rfl
    | cons x r =>
      have := fold_loop (A := .val (encC c)) (Bs := .val (encT tb)) hT r.length 0 [] c .no .no .no .no .no .no rfl (by rw [hcc]; rfl) (by simpa using hcl) hw
      rw [hcc] at this
      simpa [fold] using this
  obtain ⟨t4, t5, t6, t7, t8, t9, e⟩ := key
  refine (seq_next (for_of l2 e)).trans ?_
  rfl
end Mine
end
section
namespace Mine
open PySem
open PySem.SeqAt (shaped)
noncomputable def nL (l : List Nat) : PyData := .list (l.map fun k : Nat => .int (k : Int))
theorem nL_at {mv : List Nat} {v : Int} (h0 : 0 ≤ v) (h1 : v < (mv.length : Int)) (hn : mv.length ≤ listLine) : vItem (nL mv) (.int v) = some (.int (at' mv v)) := by
  obtain ⟨k, rfl⟩ := Int.eq_ofNat_of_zero_le h0
  have hk : k < mv.length := by omega
  simp only [nL, vItem, List.length_map, idx_nat hk hn, List.getElem?_map, at', Int.toNat_natCast]
  rw [List.getElem?_eq_getElem hk]; rfl
noncomputable def bodyS1 : DS := sSeq [sAppend 2 (dName 3), sIf (b2 vNe (dName 4) (dLit (.str "NOP"))) (sSeq [sLet 3 (d2 vAdd (dName 3) (dLit (.int 1)))]) (sSeq [])]
theorem strip_loop1 {A B s6 : Slot} : ∀ (l : List I) (acc : List Nat) (k : Nat) (s4 s5 : Slot), acc.length + l.length ≤ listLine →
    ∃ acc' k' t4 t5, loop (unpackTo [4, 5]) bodyS1 (l.map encI) [A, B, .own (acc.map fun k : Nat => .int (k : Int)), .val (.int (k : Int)), s4, s5, s6] = some (.next [A, B, .own (acc'.map fun k : Nat => .int (k : Int)), .val (.int ((k' : Nat) : Int)), t4, t5, s6]) ∧ acc' ++ [k'] = acc ++ mvs k l
  | [], acc, k, s4, s5, _ => ⟨acc, k, s4, s5, rfl, rfl⟩
  | x :: l, acc, k, s4, s5, h => by
    simp only [List.length_cons] at h
    obtain ⟨acc', k', t4, t5, e, e'⟩ := strip_loop1 (A := A) (B := B) (s6 := s6) l (acc ++ [k]) (if x.1 = .nop then k else k + 1) (.val (.str x.1.enc)) (.val (.int x.2)) (by simp; omega)
    refine ⟨acc', k', t4, t5, ?_, by rw [e', mvs]; simp⟩
    have h1 : unpackTo [4, 5] (encI x) [A, B, .own (acc.map fun k : Nat => .int (k : Int)), .val (.int (k : Int)), s4, s5, s6] = some [A, B, .own (acc.map fun k : Nat => .int (k : Int)), .val (.int (k : Int)), .val (.str x.1.enc), .val (.int x.2), s6] := rfl
    have h2 : sAppend 2 (dName 3) [A, B, .own (acc.map fun k : Nat => .int (k : Int)), .val (.int (k : Int)), .val (.str x.1.enc), .val (.int x.2), s6] = some (.next [A, B, .own ((acc ++ [k]).map fun k : Nat => .int (k : Int)), .val (.int (k : Int)), .val (.str x.1.enc), .val (.int x.2), s6]) := by
      simp only [sAppend, dName, List.getElem?_cons_zero, List.getElem?_cons_succ, List.length_map]
      rw [if_pos (by omega)]
      simp
    have c1 : (b2 vNe (dName 4) (dLit (.str "NOP"))) [A, B, .own ((acc ++ [k]).map fun k : Nat => .int (k : Int)), .val (.int (k : Int)), .val (.str x.1.enc), .val (.int x.2), s6] = some (!decide (x.1 = .nop)) := vNe_op x.1 .nop
    have h3 : bodyS1 [A, B, .own (acc.map fun k : Nat => .int (k : Int)), .val (.int (k : Int)), .val (.str x.1.enc), .val (.int x.2), s6] = some (.next [A, B, .own ((acc ++ [k]).map fun k : Nat => .int (k : Int)), .val (.int ((if x.1 = .nop then k else k + 1 : Nat) : Int)), .val (.str x.1.enc), .val (.int x.2), s6]) := by
      unfold bodyS1
      rw [seq_next h2]
      by_cases hx : x.1 = .nop
      · refine (seq_next (σ' := [A, B, .own ((acc ++ [k]).map fun k : Nat => .int (k : Int)), .val (.int (k : Int)), .val (.str x.1.enc), .val (.int x.2), s6]) ?_).trans (by rw [if_pos hx]; rfl)
        rw [if_f (by rw [c1]; simp [hx])]; rfl
      · refine (seq_next (σ' := [A, B, .own ((acc ++ [k]).map fun k : Nat => .int (k : Int)), .val (.int ((k : Int) + 1)), .val (.str x.1.enc), .val (.int x.2), s6]) ?_).trans (by rw [if_neg hx, nat_succ]; rfl)
        rw [if_t (by rw [c1]; simp [hx])]; rfl
    rw [List.map_cons, loop_next h1 h3, e]
noncomputable def bodyS2 : DS := sSeq [sIf (bAnd [(b2 vIn (dName 4) (dTup [(dLit (.str "JUMP")), (dLit (.str "JZ"))])), (bChain (dLit (.int 0)) (dName 5) (d1 vLen (dName 0)))]) (sSeq [sAppend 6 (dTup [(dName 4), (d2 vItem (dName 2) (dName 5))])]) (sSeq [sIf (b2 vNe (dName 4) (dLit (.str "NOP"))) (sSeq [sAppend 6 (dTup [(dName 4), (dName 5)])]) (sSeq [])])]
theorem chain_of {a b c : DE} {σ : St} {x y z : Int} (ha : a σ = some (.int x)) (hb : b σ = some (.int y)) (hc : c σ = some (.int z)) : bChain a b c σ = some (decide (x ≤ y ∧ y ≤ z)) := by
  unfold bChain
  rw [ha, hb]
  simp only [vLe]
  by_cases h : x ≤ y
  · simp [h, hc, vLe]
  · simp [h]
theorem strip_loop2 {c : List I} {B s3 : Slot} {mv : List Nat} (hcl : c.length ≤ listLine) (hm : mv.length = c.length + 1) (hml : mv.length ≤ listLine) : ∀ (l : List I) (acc : List I) (s4 s5 : Slot), acc.length + l.length ≤ listLine →
    ∃ t4 t5, loop (unpackTo [4, 5]) bodyS2 (l.map encI) [.val (encC c), B, .val (nL mv), s3, s4, s5, .own (acc.map encI)] = some (.next [.val (encC c), B, .val (nL mv), s3, t4, t5, .own ((acc ++ (keep l).map (rel c.length mv)).map encI)])
  | [], acc, s4, s5, _ => ⟨s4, s5, by simp [keep]; rfl⟩
  | x :: l, acc, s4, s5, h => by
    simp only [List.length_cons] at h
    have h1 : unpackTo [4, 5] (encI x) [.val (encC c), B, .val (nL mv), s3, s4, s5, .own (acc.map encI)] = some [.val (encC c), B, .val (nL mv), s3, .val (.str x.1.enc), .val (.int x.2), .own (acc.map encI)] := rfl
    have hvl : vLen (encC c) = some (.int (c.length : Int)) := by simp [vLen, encC, hcl]
    have c1 : bAnd [(b2 vIn (dName 4) (dTup [(dLit (.str "JUMP")), (dLit (.str "JZ"))])), (bChain (dLit (.int 0)) (dName 5) (d1 vLen (dName 0)))] [.val (encC c), B, .val (nL mv), s3, .val (.str x.1.enc), .val (.int x.2), .own (acc.map encI)] = some (x.1.isJ && decide (0 ≤ x.2 ∧ x.2 ≤ (c.length : Int))) := by
      have a1 : (b2 vIn (dName 4) (dTup [(dLit (.str "JUMP")), (dLit (.str "JZ"))])) [.val (encC c), B, .val (nL mv), s3, .val (.str x.1.enc), .val (.int x.2), .own (acc.map encI)] = some x.1.isJ := vIn_jumps x.1
      have a2 : bChain (dLit (.int 0)) (dName 5) (d1 vLen (dName 0)) [.val (encC c), B, .val (nL mv), s3, .val (.str x.1.enc), .val (.int x.2), .own (acc.map encI)] = some (decide (0 ≤ x.2 ∧ x.2 ≤ (c.length : Int))) := chain_of rfl rfl hvl
      simp only [bAnd, a1, a2]
      cases x.1.isJ <;> cases decide (0 ≤ x.2 ∧ x.2 ≤ (c.length : Int)) <;> rfl
    have c2 : (b2 vNe (dName 4) (dLit (.str "NOP"))) [.val (encC c), B, .val (nL mv), s3, .val (.str x.1.enc), .val (.int x.2), .own (acc.map encI)] = some (!decide (x.1 = .nop)) := vNe_op x.1 .nop
    have ap : ∀ (e : DE) (z : I), e [.val (encC c), B, .val (nL mv), s3, .val (.str x.1.enc), .val (.int x.2), .own (acc.map encI)] = some (encI z) → sSeq [sAppend 6 e] [.val (encC c), B, .val (nL mv), s3, .val (.str x.1.enc), .val (.int x.2), .own (acc.map encI)] = some (.next [.val (encC c), B, .val (nL mv), s3, .val (.str x.1.enc), .val (.int x.2), .own ((acc ++ [z]).map encI)]) := by
      intro e z he
      refine (seq_next (σ' := [.val (encC c), B, .val (nL mv), s3, .val (.str x.1.enc), .val (.int x.2), .own ((acc ++ [z]).map encI)]) ?_).trans rfl
      unfold sAppend
      rw [he]
      simp only [List.getElem?_cons_zero, List.getElem?_cons_succ, List.length_map]
      rw [if_pos (by omega)]
      simp
    by_cases hj : x.1.isJ = true ∧ 0 ≤ x.2 ∧ x.2 ≤ (c.length : Int)
    · have hr : rel c.length mv x = (x.1, at' mv x.2) := by unfold rel; rw [if_pos hj]
      have hk : x.1 ≠ .nop := by intro e; rw [e] at hj; simp [Op.isJ] at hj
      obtain ⟨t4, t5, e⟩ := strip_loop2 (B := B) (s3 := s3) hcl hm hml l (acc ++ [rel c.length mv x]) (.val (.str x.1.enc)) (.val (.int x.2)) (by simp; omega)
      refine ⟨t4, t5, ?_⟩
      have h3 : bodyS2 [.val (encC c), B, .val (nL mv), s3, .val (.str x.1.enc), .val (.int x.2), .own (acc.map encI)] = some (.next [.val (encC c), B, .val (nL mv), s3, .val (.str x.1.enc), .val (.int x.2), .own ((acc ++ [rel c.length mv x]).map encI)]) := by
        unfold bodyS2
        refine (seq_next (σ' := [.val (encC c), B, .val (nL mv), s3, .val (.str x.1.enc), .val (.int x.2), .own ((acc ++ [rel c.length mv x]).map encI)]) ?_).trans rfl
        rw [if_t (by rw [c1]; simp [hj])]
        refine ap _ _ ?_
        have hit : (d2 vItem (dName 2) (dName 5)) [.val (encC c), B, .val (nL mv), s3, .val (.str x.1.enc), .val (.int x.2), .own (acc.map encI)] = some (.int (at' mv x.2)) := nL_at hj.2.1 (by omega) hml
        unfold dTup dAll dAll dAll
        rw [hit, hr]; rfl
      rw [List.map_cons, loop_next h1 h3, e, keep_cons hk]
      simp
    · have hr : rel c.length mv x = x := by unfold rel; rw [if_neg hj]
      have hcf : (x.1.isJ && decide (0 ≤ x.2 ∧ x.2 ≤ (c.length : Int))) = false := by
        cases hh : (x.1.isJ && decide (0 ≤ x.2 ∧ x.2 ≤ (c.length : Int))) with
        | false => rfl
        | true => simp only [Bool.and_eq_true, decide_eq_true_eq] at hh; exact absurd hh hj
      by_cases hk : x.1 = .nop
      · obtain ⟨t4, t5, e⟩ := strip_loop2 (B := B) (s3 := s3) hcl hm hml l acc (.val (.str x.1.enc)) (.val (.int x.2)) (by omega)
        refine ⟨t4, t5, ?_⟩
        have h3 : bodyS2 [.val (encC c), B, .val (nL mv), s3, .val (.str x.1.enc), .val (.int x.2), .own (acc.map encI)] = some (.next [.val (encC c), B, .val (nL mv), s3, .val (.str x.1.enc), .val (.int x.2), .own (acc.map encI)]) := by
          unfold bodyS2
          refine (seq_next (σ' := [.val (encC c), B, .val (nL mv), s3, .val (.str x.1.enc), .val (.int x.2), .own (acc.map encI)]) ?_).trans rfl
          rw [if_f (by rw [c1, hcf])]
          refine (seq_next (σ' := [.val (encC c), B, .val (nL mv), s3, .val (.str x.1.enc), .val (.int x.2), .own (acc.map encI)]) ?_).trans rfl
          rw [if_f (by rw [c2]; simp [hk])]; rfl
        rw [List.map_cons, loop_next h1 h3, e, keep_nop hk]
      · obtain ⟨t4, t5, e⟩ := strip_loop2 (B := B) (s3 := s3) hcl hm hml l (acc ++ [x]) (.val (.str x.1.enc)) (.val (.int x.2)) (by simp; omega)
        refine ⟨t4, t5, ?_⟩
        have h3 : bodyS2 [.val (encC c), B, .val (nL mv), s3, .val (.str x.1.enc), .val (.int x.2), .own (acc.map encI)] = some (.next [.val (encC c), B, .val (nL mv), s3, .val (.str x.1.enc), .val (.int x.2), .own ((acc ++ [x]).map encI)]) := by
          unfold bodyS2
          refine (seq_next (σ' := [.val (encC c), B, .val (nL mv), s3, .val (.str x.1.enc), .val (.int x.2), .own ((acc ++ [x]).map encI)]) ?_).trans rfl
          rw [if_f (by rw [c1, hcf])]
          refine (seq_next (σ' := [.val (encC c), B, .val (nL mv), s3, .val (.str x.1.enc), .val (.int x.2), .own ((acc ++ [x]).map encI)]) ?_).trans rfl
          rw [if_t (by rw [c2]; simp [hk])]
          exact ap _ _ rfl
        rw [List.map_cons, loop_next h1 h3, e, keep_cons hk, List.map_cons, hr]
        simp
theorem comp_tab {mv : List Nat} (hml : mv.length ≤ listLine) : ∀ (t : List Row), (∀ r ∈ t, 0 ≤ r.2 ∧ r.2 < (mv.length : Int)) →
    comp (unpackTo [0, 1, 2, 3]) bTrue (dTup [(dName 0), (dName 1), (dName 2), (d2 vItem (dName 4) (dName 3))]) [.no, .no, .no, .no, .val (nL mv)] (t.map encR) = some ((relT mv t).map encR)
  | [], _ => rfl
  | r :: t, h => by
    have ih := comp_tab hml t fun r hr => h r (.tail _ hr)
    have h1 : unpackTo [0, 1, 2, 3] (encR r) [.no, .no, .no, .no, .val (nL mv)] = some [.val (.str r.1.1), .val (.int r.1.2.1), .val (.int r.1.2.2), .val (.int r.2), .val (nL mv)] := rfl
    have hr := h r (.head _)
    have h2 : (dTup [(dName 0), (dName 1), (dName 2), (d2 vItem (dName 4) (dName 3))]) [.val (.str r.1.1), .val (.int r.1.2.1), .val (.int r.1.2.2), .val (.int r.2), .val (nL mv)] = some (encR (r.1, at' mv r.2)) := by
      have hit : (d2 vItem (dName 4) (dName 3)) [.val (.str r.1.1), .val (.int r.1.2.1), .val (.int r.1.2.2), .val (.int r.2), .val (nL mv)] = some (.int (at' mv r.2)) := nL_at hr.1 hr.2 hml
      unfold dTup dAll dAll dAll dAll dAll
      rw [hit]; rfl
    rw [List.map_cons, comp, h1]
    simp only [bTrue, h2, ih]
    simp [relT]
noncomputable def encP (p : List I × List Row) : PyData := .tuple [encC p.1, encT p.2]
theorem F_stripOk {c : List I} {tb : List Row} (hc : c.length < 2 ^ 19) (ht : tb.length ≤ listLine) (ok : TbOk c.length tb) : F_strip_nops [.val (encC c), .val (encT tb)] = some (encP (strip c tb)) := by
  have hcl : c.length ≤ listLine := by unfold listLine; omega
  have hml : (mvs 0 c).length = c.length + 1 := mvs_len c 0
  have hml' : (mvs 0 c).length ≤ listLine := by rw [hml]; unfold listLine; omega
  unfold F_strip_nops
  refine run_ret rfl ?_
  show D_strip_nops [.val (encC c), .val (encT tb), .no, .no, .no, .no, .no] = _
  unfold D_strip_nops
  rw [seq_next (σ' := [.val (encC c), .val (encT tb), .own [], .no, .no, .no, .no]) rfl, seq_next (σ' := [.val (encC c), .val (encT tb), .own [], .val (.int 0), .no, .no, .no]) rfl]
  obtain ⟨acc', k', t4, t5, e, e'⟩ := strip_loop1 (A := .val (encC c)) (B := .val (encT tb)) (s6 := .no) c [] 0 .no .no (by simpa using hcl)
  refine (seq_next (for_of (xs := c.map encI) rfl e)).trans ?_
  simp only [List.nil_append] at e'
  have hal : acc'.length = c.length := by
    have := congrArg List.length e'
    rw [hml] at this; simpa using this
  have h2 : sAppend 2 (dName 3) [.val (encC c), .val (encT tb), .own (acc'.map fun k : Nat => .int (k : Int)), .val (.int ((k' : Nat) : Int)), t4, t5, .no] = some (.next [.val (encC c), .val (encT tb), .own ((mvs 0 c).map fun k : Nat => .int (k : Int)), .val (.int ((k' : Nat) : Int)), t4, t5, .no]) := by
    simp only [sAppend, dName, List.getElem?_cons_zero, List.getElem?_cons_succ, List.length_map]
    rw [if_pos (by omega), ← e']
    simp
  rw [seq_next h2, seq_next (σ' := [.val (encC c), .val (encT tb), .val (nL (mvs 0 c)), .val (.int ((k' : Nat) : Int)), t4, t5, .no]) rfl, seq_next (σ' := [.val (encC c), .val (encT tb), .val (nL (mvs 0 c)), .val (.int ((k' : Nat) : Int)), t4, t5, .own []]) rfl]
  obtain ⟨u4, u5, e2⟩ := strip_loop2 (B := .val (encT tb)) (s3 := .val (.int ((k' : Nat) : Int))) hcl hml hml' c [] t4 t5 (by simpa using hcl)
  refine (seq_next (for_of (xs := c.map encI) rfl e2)).trans ?_
  refine (seq_next (σ' := [.val (encC c), .val (encT tb), .val (nL (mvs 0 c)), .val (.int ((k' : Nat) : Int)), u4, u5, .val (encC (strip c tb).1)]) rfl).trans ?_
  refine seq_ret (ret_of ?_)
  have l1 : lComp 4 [2] (unpackTo [0, 1, 2, 3]) (items (dName 1)) bTrue (dTup [(dName 0), (dName 1), (dName 2), (d2 vItem (dName 4) (dName 3))]) [.val (encC c), .val (encT tb), .val (nL (mvs 0 c)), .val (.int ((k' : Nat) : Int)), u4, u5, .val (encC (strip c tb).1)] = some ((strip c tb).2.map encR) := by
    show (if (tb.map encR).length ≤ listLine then comp _ _ _ [.no, .no, .no, .no, .val (nL (mvs 0 c))] (tb.map encR) else none) = _
    rw [if_pos (by simpa using ht), comp_tab hml' tb (fun r hr => ⟨(ok r hr).1, by have := (ok r hr).2; omega⟩)]
    rfl
  exact tup_of (all_cons rfl (all_cons (comp_of l1) all_nil))
end Mine
end
section
namespace Mine
open PySem
open PySem.SeqAt (shaped)
theorem bt_mono {a b : Int} (h : a.natAbs ≤ b.natAbs) : bt a ≤ bt b := bt_le (Nat.lt_of_le_of_lt h (bt_lt b))
theorem mvs_le : ∀ (l : List I) (k m v : Nat), (mvs k l)[m]? = some v → v ≤ k + m
  | [], k, m, v, h => by
    cases m with
    | zero => simp [mvs] at h; omega
    | succ m => simp [mvs] at h
  | x :: r, k, m, v, h => by
    cases m with
    | zero => simp [mvs] at h; omega
    | succ m =>
      simp only [mvs, List.getElem?_cons_succ] at h
      have := mvs_le r _ m v h
      split at this <;> omega
theorem wt_rel (n : Nat) (l : List I) (x : I) : wt (rel n (mvs 0 l) x) ≤ wt x := by
  unfold rel
  split
  · rename_i h
    have hn : x.1 ≠ .nop := by intro e; rw [e] at h; simp [Op.isJ] at h
    unfold wt
    simp only [if_neg hn]
    have : bt (at' (mvs 0 l) x.2) ≤ bt x.2 := by
      refine bt_mono ?_
      unfold at'
      cases e : (mvs 0 l)[x.2.toNat]? with
      | none => simp
      | some v =>
        have := mvs_le l 0 _ v e
        simp only [Option.getD_some]
        omega
    omega
  · exact Nat.le_refl _
theorem ws_map_le {f : I → I} (h : ∀ x, wt (f x) ≤ wt x) : ∀ l : List I, ws (l.map f) ≤ ws l
  | [] => Nat.le_refl _
  | x :: r => by have := h x; have := ws_map_le h r; simp [ws]; omega
theorem ws_keep : ∀ l : List I, ws (keep l) ≤ ws l
  | [] => Nat.le_refl _
  | x :: r => by
    have ih := ws_keep r
    by_cases h : x.1 = .nop
    · rw [keep_nop h]; simp [ws]; omega
    · rw [keep_cons h]; simp [ws]; omega
theorem ws_strip (c : List I) (tb : List Row) : ws (strip c tb).1 ≤ ws c := Nat.le_trans (ws_map_le (wt_rel _ _) _) (ws_keep c)
theorem ws_FR {t : Nat → Bool} {i : Nat} {l l' : List I} (h : FR t i l l') : ws l' ≤ ws l := by
  induction h with
  | nil i => exact Nat.le_refl _
  | keep _ _ ih => simp [ws]; omega
  | one _ hu _ ih =>
    have := una_bt hu
    simp only [ws, wt] at ih this ⊢
    simp at ih this ⊢
    omega
  | @two i a b c o r r2 h1 h2 hv hf ih =>
    have := bt_val o a b hv
    simp only [ws, wt] at ih ⊢
    simp at ih ⊢
    omega
theorem ws_fold (c : List I) (tb : List Row) : ws (fold c tb) ≤ ws c := ws_FR (F_is _ _ _)
/-- what the program keeps true of its code -/
structure Good (c : List I) (tb : List Row) : Prop where
  len : c.length < 2 ^ 19
  tl : tb.length ≤ listLine
  ok : TbOk c.length tb
  tgt : (tg c tb).length < 64
  w : ws c ≤ 2 ^ 25
theorem Good.fold {c : List I} {tb : List Row} (h : Good c tb) : Good (fold c tb) tb :=
  ⟨by rw [fold_len]; exact h.len, h.tl, by rw [fold_len]; exact h.ok, by rw [fold_tg]; exact h.tgt, Nat.le_trans (ws_fold c tb) h.w⟩
theorem relT_len (mv : List Nat) (tb : List Row) : (relT mv tb).length = tb.length := by simp [relT]
theorem Good.strip {c : List I} {tb : List Row} (h : Good c tb) : Good (strip c tb).1 (strip c tb).2 :=
  ⟨by rw [strip_len]; exact Nat.lt_of_le_of_lt (keep_le c) h.len, by show (relT _ tb).length ≤ _; rw [relT_len]; exact h.tl, strip_ok h.ok, by rw [strip_tg c tb h.ok]; simpa using h.tgt, Nat.le_trans (ws_strip c tb) h.w⟩
theorem Good.pass {c : List I} {tb : List Row} (h : Good c tb) : Good (pass c tb).1 (pass c tb).2 := h.fold.strip
noncomputable def bodyOpt : DS := sSeq [sUnpack [3, 4] (dCall F_strip_nops [(aVal (dCall F_fold_once [(aVal (dName 0)), (aVal (dName 1))])), (aVal (dName 1))]), sIf (b2 vEq (dName 3) (dName 0)) (sSeq [sBrk]) (sSeq []), sLet 0 (dName 3), sLet 1 (dName 4)]
theorem opt_loop : ∀ (xs : List PyData) (c : List I) (tb : List Row) (s2 s3 s4 : Slot), Good c tb →
    ∃ t2 t3 t4, loop (toOne 2) bodyOpt xs [.val (encC c), .val (encT tb), s2, s3, s4] = some (.next [.val (encC (opt xs.length c tb).1), .val (encT (opt xs.length c tb).2), t2, t3, t4])
  | [], c, tb, s2, s3, s4, _ => ⟨s2, s3, s4, rfl⟩
  | x :: xs, c, tb, s2, s3, s4, g => by
    have e1 : dCall F_fold_once [(aVal (dName 0)), (aVal (dName 1))] [.val (encC c), .val (encT tb), .val x, s3, s4] = some (encC (fold c tb)) := call_of (ds := [.val (encC c), .val (encT tb)]) rfl (F_foldOk g.len g.tl g.tgt g.w)
    have e2 : dCall F_strip_nops [(aVal (dCall F_fold_once [(aVal (dName 0)), (aVal (dName 1))])), (aVal (dName 1))] [.val (encC c), .val (encT tb), .val x, s3, s4] = some (encP (pass c tb)) :=
      call_of (ds := [.val (encC (fold c tb)), .val (encT tb)]) (aall_cons e1 (aall_cons rfl rfl)) (F_stripOk g.fold.len g.tl g.fold.ok)
    have u1 : sUnpack [3, 4] (dCall F_strip_nops [(aVal (dCall F_fold_once [(aVal (dName 0)), (aVal (dName 1))])), (aVal (dName 1))]) [.val (encC c), .val (encT tb), .val x, s3, s4] = some (.next [.val (encC c), .val (encT tb), .val x, .val (encC (pass c tb).1), .val (encT (pass c tb).2)]) := unpack_of e2 rfl
    have c1 : (b2 vEq (dName 3) (dName 0)) [.val (encC c), .val (encT tb), .val x, .val (encC (pass c tb).1), .val (encT (pass c tb).2)] = some (decide ((pass c tb).1 = c)) := vEq_encC _ _
    by_cases h : (pass c tb).1 = c
    · refine ⟨.val x, .val (encC (pass c tb).1), .val (encT (pass c tb).2), ?_⟩
      have hb : bodyOpt [.val (encC c), .val (encT tb), .val x, s3, s4] = some (.brk [.val (encC c), .val (encT tb), .val x, .val (encC (pass c tb).1), .val (encT (pass c tb).2)]) := by
        unfold bodyOpt
        rw [seq_next u1]
        refine seq_brk ?_
        rw [if_t (by rw [c1]; simp [h])]; rfl
      rw [loop_brk (σ₁ := [.val (encC c), .val (encT tb), .val x, s3, s4]) rfl hb]
      have ho : opt (x :: xs).length c tb = (c, tb) := by rw [List.length_cons, opt, if_pos h]
      rw [ho]
    · obtain ⟨t2, t3, t4, e⟩ := opt_loop xs (pass c tb).1 (pass c tb).2 (.val x) (.val (encC (pass c tb).1)) (.val (encT (pass c tb).2)) g.pass
      refine ⟨t2, t3, t4, ?_⟩
      have hb : bodyOpt [.val (encC c), .val (encT tb), .val x, s3, s4] = some (.next [.val (encC (pass c tb).1), .val (encT (pass c tb).2), .val x, .val (encC (pass c tb).1), .val (encT (pass c tb).2)]) := by
        unfold bodyOpt
        rw [seq_next u1, seq_next (σ' := [.val (encC c), .val (encT tb), .val x, .val (encC (pass c tb).1), .val (encT (pass c tb).2)]) (by rw [if_f (by rw [c1]; simp [h])]; rfl)]
        rfl
      rw [loop_next (σ₁ := [.val (encC c), .val (encT tb), .val x, s3, s4]) rfl hb, e]
      have ho : opt (x :: xs).length c tb = opt xs.length (pass c tb).1 (pass c tb).2 := by rw [List.length_cons, opt, if_neg h]
      rw [ho]
theorem R_len {c : List I} {tb : List Row} (g : Good c tb) : (R c tb).1.length ≤ c.length ∧ (R c tb).2.length = tb.length := by
  have key : ∀ (k : Nat) (c : List I) (tb : List Row), (opt k c tb).1.length ≤ c.length ∧ (opt k c tb).2.length = tb.length := by
    intro k
    induction k with
    | zero => intro c tb; exact ⟨Nat.le_refl _, rfl⟩
    | succ k ih =>
      intro c tb
      rw [opt]
      split
      · exact ⟨Nat.le_refl _, rfl⟩
      · have := ih (pass c tb).1 (pass c tb).2
        have h1 := pass_len_le c tb
        have h2 : (pass c tb).2.length = tb.length := by show (relT _ tb).length = _; rw [relT_len]
        exact ⟨Nat.le_trans this.1 h1, this.2.trans h2⟩
  rw [← opt_eq (c.length + 1) c tb (by omega) g.ok]
  exact key _ _ _
theorem F_optOk {c : List I} {tb : List Row} (g : Good c tb) : F_optimize [.val (encC c), .val (encT tb)] = some (encP (R c tb)) := by
  have hcl : c.length ≤ listLine := by have := g.len; unfold listLine; omega
  unfold F_optimize
  refine run_ret rfl ?_
  show D_optimize [.val (encC c), .val (encT tb), .no, .no, .no] = _
  unfold D_optimize
  have hvl : vLen (encC c) = some (.int (c.length : Int)) := by simp [vLen, encC, hcl]
  have l2 : rangeTo (d2 vAdd (d1 vLen (dName 0)) (dLit (.int 1))) [.val (encC c), .val (encT tb), .no, .no, .no] = some ((iota 0 (c.length + 1)).map .int) := by
    have h0 : (d2 vAdd (d1 vLen (dName 0)) (dLit (.int 1))) [.val (encC c), .val (encT tb), .no, .no, .no] = some (.int ((c.length : Int) + 1)) := d2_of (d1_of rfl hvl) rfl rfl
    unfold rangeTo
    rw [h0]
    simp only
    have := g.len
    rw [if_pos (by omega)]
    rfl
  obtain ⟨t2, t3, t4, e⟩ := opt_loop ((iota 0 (c.length + 1)).map .int) c tb .no .no .no g
  have hl : ((iota 0 (c.length + 1)).map PyData.int).length = c.length + 1 := by simp [iota]
  rw [hl, opt_eq (c.length + 1) c tb (by omega) g.ok] at e
  refine (seq_next (for_of l2 e)).trans ?_
  refine seq_ret (ret_of (tup_of (all_cons (d := encC (R c tb).1) (d1_of rfl ?_) (all_cons (d := encT (R c tb).2) (d1_of rfl ?_) all_nil))))
  · have := (R_len g).1
    simp only [vListOf, encC, List.length_map]
    rw [if_pos (by omega)]
  · have := (R_len g).2
    have := g.tl
    simp only [vListOf, encT, List.length_map]
    rw [if_pos (by omega)]
end Mine
end
section
namespace Mine
open PySem
open PySem.SeqAt (shaped)
theorem fm_ok (a : Int) {n : Int} (h : 0 < n) : 0 ≤ a.fmod n ∧ a.fmod n < n := by
  rw [Int.fmod_eq_emod_of_nonneg a (by omega)]
  exact ⟨Int.emod_nonneg a (by omega), Int.emod_lt_of_pos a h⟩
theorem vMod_pos (a : Int) {n : Int} (h : 0 < n) : vMod (.int a) (.int n) = some (.int (a.fmod n)) := by
  simp only [vMod]; rw [if_neg (by omega)]
theorem ops_at {k : Int} (h0 : 0 ≤ k) (h1 : k < 11) : ∃ o : B, vItem opsD (.int k) = some (.str (Op.bin o).enc) ∧ vItem signsD (.int k) = some (.str o.sign) := by
  obtain ⟨j, rfl⟩ := Int.eq_ofNat_of_zero_le h0
  have hj : j < 11 := by omega
  have h11 : 11 ≤ listLine := by decide
  have hl : allB.length = 11 := rfl
  obtain ⟨o, hg⟩ : ∃ o, allB[j]? = some o := ⟨_, List.getElem?_eq_getElem (show j < allB.length by rw [hl]; exact hj)⟩
  have hx : idxOf allB.length (j : Int) = some j := idx_nat (by rw [hl]; exact hj) (by rw [hl]; exact h11)
  refine ⟨o, ?_, ?_⟩
  · have e : opsD = .tuple (allB.map fun o => PyData.str (Op.bin o).enc) := rfl
    rw [e]
    simp only [vItem, List.length_map, hx, List.getElem?_map, hg, Option.map_some]
  · have e : signsD = .tuple (allB.map fun o => PyData.str o.sign) := rfl
    rw [e]
    simp only [vItem, List.length_map, hx, List.getElem?_map, hg, Option.map_some]
theorem bt_small {a : Int} (h : -3 ≤ a) (h' : a ≤ 3) : bt a ≤ 2 := bt_le (by show _ < 4; omega)
noncomputable def jmp (n : Int) (x : I) : I := if x.1.isJ then (x.1, x.2.fmod (n + 3) - 1) else x
theorem comp_code {n : Int} (hn : 0 ≤ n) : ∀ c : List I, comp (unpackTo [0, 1]) bTrue (dIte (b2 vIn (dName 0) (dTup [(dLit (.str "JUMP")), (dLit (.str "JZ"))])) (dTup [(dName 0), (d2 vSub (d2 vMod (dName 1) (d2 vAdd (dName 2) (dLit (.int 3)))) (dLit (.int 1)))]) (dTup [(dName 0), (dName 1)])) [.no, .no, .val (.int n)] (c.map encI) = some ((c.map (jmp n)).map encI)
  | [] => rfl
  | x :: c => by
    have ih := comp_code hn c
    have h1 : unpackTo [0, 1] (encI x) [.no, .no, .val (.int n)] = some [.val (.str x.1.enc), .val (.int x.2), .val (.int n)] := rfl
    have h2 : (dIte (b2 vIn (dName 0) (dTup [(dLit (.str "JUMP")), (dLit (.str "JZ"))])) (dTup [(dName 0), (d2 vSub (d2 vMod (dName 1) (d2 vAdd (dName 2) (dLit (.int 3)))) (dLit (.int 1)))]) (dTup [(dName 0), (dName 1)])) [.val (.str x.1.enc), .val (.int x.2), .val (.int n)] = some (encI (jmp n x)) := by
      have c1 : (b2 vIn (dName 0) (dTup [(dLit (.str "JUMP")), (dLit (.str "JZ"))])) [.val (.str x.1.enc), .val (.int x.2), .val (.int n)] = some x.1.isJ := vIn_jumps x.1
      unfold dIte
      rw [c1]
      cases hj : x.1.isJ with
      | true =>
        simp only [jmp, hj, if_true]
        exact tup_of (all_cons rfl (all_cons (d2_of (d2_of rfl (d2_of rfl rfl rfl) (vMod_pos x.2 (by omega))) rfl rfl) all_nil))
      | false =>
        simp only [jmp, hj]
        rfl
    rw [List.map_cons, comp, h1]
    simp only [bTrue, h2, ih]
    simp
theorem raise_noVal (o : B) (a b : Int) : raiseP [.val (.str o.sign), .val (.int a), .val (.int b)] = noVal o b := by
  have e1 : (Str.ofString "//") = B.div.sign := rfl
  have e2 : (Str.ofString "%") = B.mod.sign := rfl
  simp only [raiseP, e1, e2, sign_inj]
  cases o <;> simp [noVal, B.dm]
theorem strict_ext : ∀ {a b : List Int}, a.Pairwise (· < ·) → b.Pairwise (· < ·) → (∀ x, x ∈ a ↔ x ∈ b) → a = b
  | [], [], _, _, _ => rfl
  | [], y :: b, _, _, h => by have := (h y).mpr (.head _); cases this
  | x :: a, [], _, _, h => by have := (h x).mp (.head _); cases this
  | x :: a, y :: b, h1, h2, h => by
    rw [List.pairwise_cons] at h1 h2
    have hxy : x = y := by
      rcases List.mem_cons.mp ((h x).mp (.head _)) with e | e
      · exact e
      · rcases List.mem_cons.mp ((h y).mpr (.head _)) with e' | e'
        · exact e'.symm
        · have := h2.1 x e; have := h1.1 y e'; omega
    subst hxy
    refine congrArg _ (strict_ext h1.2 h2.2 fun z => ⟨fun hz => ?_, fun hz => ?_⟩)
    · rcases List.mem_cons.mp ((h z).mp (.tail _ hz)) with e | e
      · have := h1.1 z hz; omega
      · exact e
    · rcases List.mem_cons.mp ((h z).mpr (.tail _ hz)) with e | e
      · have := h2.1 z hz; omega
      · exact e
theorem iota_strict (a : Int) (n : Nat) : (iota a n).Pairwise (· < ·) := by
  unfold iota
  rw [List.pairwise_map]
  exact List.pairwise_lt_range.imp fun h => by omega
theorem mem_iota {a x : Int} {n : Nat} : x ∈ iota a n ↔ a ≤ x ∧ x < a + n := by
  unfold iota
  simp only [List.mem_map, List.mem_range]
  constructor
  · rintro ⟨k, hk, rfl⟩; omega
  · intro h; exact ⟨(x - a).toNat, by omega, by omega⟩
theorem rangeTo_of {a : DE} {σ : St} {k : Int} (ha : a σ = some (.int k)) (h : -(2 ^ 20) < k ∧ k < 2 ^ 20) : rangeTo a σ = some ((iota 0 k.toNat).map .int) := by
  unfold rangeTo
  rw [ha]
  simp only
  rw [if_pos h]
theorem iota_len (a : Int) (n : Nat) : (iota a n).length = n := by simp [iota]
theorem lcomp_of {own : Nat} {see : List Nat} {tgt : PyData → St → Option St} {src : DL} {test : DB} {elt : DE} {σ σ' : St} {xs ys : List PyData} (h1 : src σ = some xs) (h2 : xs.length ≤ listLine) (hs : List.replicate own .no ++ see.map (look σ) = σ') (h3 : comp tgt test elt σ' xs = some ys) : lComp own see tgt src test elt σ = some ys := by
  unfold lComp
  rw [h1]
  simp only
  rw [if_pos h2, hs, h3]
theorem wt_jmp {n : Nat} (h : n ≤ 28) (x : I) : wt (jmp (n : Int) x) ≤ wt x + 5 := by
  unfold jmp
  split
  · rename_i hj
    have f := fm_ok x.2 (n := (n : Int) + 3) (by omega)
    have : bt (x.2.fmod ((n : Int) + 3) - 1) ≤ 5 := bt_le (by show _ < 32; omega)
    have hn : x.1 ≠ .nop := by intro e; rw [e] at hj; simp [Op.isJ] at hj
    simp only [wt, if_neg hn]
    omega
  · omega
theorem ws_jmp {n : Nat} (h : n ≤ 28) : ∀ l : List I, ws (l.map (jmp (n : Int))) ≤ ws l + 5 * l.length
  | [] => by simp [ws]
  | x :: l => by
    have h1 := wt_jmp h x
    have h2 := ws_jmp h l
    simp only [List.map_cons, ws, List.length_cons]
    omega
theorem jmp_tg {n : Nat} {raw : List I} {x : I} (hx : x ∈ raw.map (jmp (n : Int))) (hj : x.1.isJ = true) : -1 ≤ x.2 ∧ x.2 < (n : Int) + 2 := by
  obtain ⟨y, _, rfl⟩ := List.mem_map.mp hx
  unfold jmp at hj ⊢
  split at hj
  · rename_i h
    rw [if_pos h]
    have f := fm_ok y.2 (n := (n : Int) + 3) (by omega)
    simp only
    omega
  · rename_i h; exact absurd hj h
theorem weight_bt (S : List Int) : ∀ x ∈ S, bt x ≤ PyData.weightAll (S.map .int) := by
  induction S with
  | nil => intro x h; cases h
  | cons y r ih =>
    intro x hx
    have hy : PyData.weight (.int y) = bt y := by
      unfold PyData.weight bt
      by_cases h : y = 0
      · simp [h]
      · simp [h]
    rw [List.map_cons, PyData.weightAll, hy]
    rcases List.mem_cons.mp hx with e | e
    · subst e; omega
    · have := ih x e; omega
end Mine
end
section
namespace Mine
open PySem
open PySem.SeqAt (shaped)
theorem F_noval (o : B) (b : Int) : F_law_no_value [.val (.str (Op.bin o).enc), .val (.int b)] = some (.bool (noVal o b)) := by
  unfold F_law_no_value
  refine run_ret rfl ?_
  show D_law_no_value [.val (.str (Op.bin o).enc), .val (.int b)] = _
  unfold D_law_no_value
  have c1 : (b2 vIn (dName 0) (dTup [(dLit (.str "DIV")), (dLit (.str "MOD"))])) [.val (.str (Op.bin o).enc), .val (.int b)] = some (decide (Op.bin o = .bin .div ∨ Op.bin o = .bin .mod)) := vIn_dm _
  have c2 : (bVal (b2 vEq (dName 1) (dLit (.int 0)))) [.val (.str (Op.bin o).enc), .val (.int b)] = some (.bool (decide (b = 0))) := by
    show (vEq (.int b) (.int 0)).map PyData.bool = _
    rw [vEq_int]; rfl
  by_cases h : o.dm = true
  · have h' : Op.bin o = .bin .div ∨ Op.bin o = .bin .mod := by cases o <;> simp_all [B.dm]
    have : noVal o b = decide (b = 0) := by simp [noVal, h]
    rw [this]
    refine seq_ret ?_
    rw [if_t (by rw [c1]; simpa using h')]
    exact seq_ret (ret_of c2)
  · have h' : ¬ (Op.bin o = .bin .div ∨ Op.bin o = .bin .mod) := by cases o <;> simp_all [B.dm]
    have : noVal o b = false := by simp [noVal, h]
    rw [this]
    rw [seq_next (σ' := [.val (.str (Op.bin o).enc), .val (.int b)]) (by rw [if_f (by rw [c1]; simpa using h')]; rfl)]
    rfl
theorem holds_at {o : B} {d : PyData} (h : (kvs_law_holds.map fun p => (p.1, p.2)).lookup (Op.bin o).enc = some d) : kvs_law_holds.lookup (Op.bin o).enc = some d := by simpa using h
theorem F_value {o : B} {a b : Int} (h : Can o a b) : F_law_value [.val (.str (Op.bin o).enc), .val (.int a), .val (.int b)] = some (.int (o.val a b)) := by
  obtain ⟨h1, h2⟩ := h
  unfold F_law_value
  refine run_ret rfl ?_
  show D_law_value [.val (.str (Op.bin o).enc), .val (.int a), .val (.int b), .no] = _
  unfold D_law_value
  have ca : ∀ o' : B, vEq (.str (Op.bin o).enc) (.str (Op.bin o').enc) = some (decide (o = o')) := fun o' => by rw [vEq_op]; simp
  have c1 : (b2 vEq (dName 0) (dLit (.str "ADD"))) [.val (.str (Op.bin o).enc), .val (.int a), .val (.int b), .no] = some (decide (o = .add)) := ca .add
  have c2 : (b2 vEq (dName 0) (dLit (.str "SUB"))) [.val (.str (Op.bin o).enc), .val (.int a), .val (.int b), .no] = some (decide (o = .sub)) := ca .sub
  have c3 : (b2 vEq (dName 0) (dLit (.str "MUL"))) [.val (.str (Op.bin o).enc), .val (.int a), .val (.int b), .no] = some (decide (o = .mul)) := ca .mul
  have c4 : (b2 vEq (dName 0) (dLit (.str "DIV"))) [.val (.str (Op.bin o).enc), .val (.int a), .val (.int b), .no] = some (decide (o = .div)) := ca .div
  have c5 : (b2 vEq (dName 0) (dLit (.str "MOD"))) [.val (.str (Op.bin o).enc), .val (.int a), .val (.int b), .no] = some (decide (o = .mod)) := ca .mod
  have c6 : (b2 vEq (dName 1) (dName 2)) [.val (.str (Op.bin o).enc), .val (.int a), .val (.int b), .val (.int 0)] = some (decide (a = b)) := vEq_int a b
  have c7 : (b2 vGt (dName 1) (dName 2)) [.val (.str (Op.bin o).enc), .val (.int a), .val (.int b), .val (.int 0)] = some (decide (a > b)) := rfl
  have skip : ∀ {c : DB} {x : DS} {r : List DS}, c [.val (.str (Op.bin o).enc), .val (.int a), .val (.int b), .no] = some false → sSeq (sIf c x (sSeq []) :: r) [.val (.str (Op.bin o).enc), .val (.int a), .val (.int b), .no] = sSeq r [.val (.str (Op.bin o).enc), .val (.int a), .val (.int b), .no] := fun hc => seq_next (by rw [if_f hc]; rfl)
  have take : ∀ {c : DB} {x : DE} {r : List DS} {d : PyData}, c [.val (.str (Op.bin o).enc), .val (.int a), .val (.int b), .no] = some true → x [.val (.str (Op.bin o).enc), .val (.int a), .val (.int b), .no] = some d → sSeq (sIf c (sSeq [sRet x]) (sSeq []) :: r) [.val (.str (Op.bin o).enc), .val (.int a), .val (.int b), .no] = some (.ret d) := fun hc hx => seq_ret (by rw [if_t hc]; exact seq_ret (ret_of hx))
  have tail : o.dm = false → o ≠ .add → o ≠ .sub → o ≠ .mul → ∀ (row : PyData), kvs_law_holds.lookup (Op.bin o).enc = some row → vItem row (.int (if a = b then 1 else if a > b then 2 else 0)) = some (.int (o.val a b)) →
      sSeq [sLet 3 (dLit (.int 0)),
    sIf (b2 vEq (dName 1) (dName 2)) (sSeq [sLet 3 (dLit (.int 1))]) (sSeq [sIf (b2 vGt (dName 1) (dName 2)) (sSeq [sLet 3 (dLit (.int 2))]) (sSeq [])]),
    sRet (d2 vItem (dTab (dKvs kvs_law_holds) (dName 0)) (dName 3))] [.val (.str (Op.bin o).enc), .val (.int a), .val (.int b), .no] = some (.ret (.int (o.val a b))) := by
    intro _ _ _ _ row hrow hit
    rw [seq_next (σ' := [.val (.str (Op.bin o).enc), .val (.int a), .val (.int b), .val (.int 0)]) rfl]
    have hs : sIf (b2 vEq (dName 1) (dName 2)) (sSeq [sLet 3 (dLit (.int 1))]) (sSeq [sIf (b2 vGt (dName 1) (dName 2)) (sSeq [sLet 3 (dLit (.int 2))]) (sSeq [])]) [.val (.str (Op.bin o).enc), .val (.int a), .val (.int b), .val (.int 0)] = some (.next [.val (.str (Op.bin o).enc), .val (.int a), .val (.int b), .val (.int (if a = b then 1 else if a > b then 2 else 0))]) := by
      by_cases hab : a = b
      · rw [if_t (by rw [c6]; simp [hab]), if_pos hab]; rfl
      · rw [if_f (by rw [c6]; simp [hab]), if_neg hab]
        by_cases hgt : a > b
        · refine (seq_next (σ' := [.val (.str (Op.bin o).enc), .val (.int a), .val (.int b), .val (.int 2)]) ?_).trans (by rw [if_pos hgt]; rfl)
          rw [if_t (by rw [c7]; simpa using hgt)]; rfl
        · refine (seq_next (σ' := [.val (.str (Op.bin o).enc), .val (.int a), .val (.int b), .val (.int 0)]) ?_).trans (by rw [if_neg hgt]; rfl)
          rw [if_f (by rw [c7]; simpa using hgt)]; rfl
    rw [seq_next hs]
    exact seq_ret (ret_of (d2_of (x := row) hrow rfl hit))
  have row3 : ∀ (x y z : Int) (k : Int), (k = 0 ∨ k = 1 ∨ k = 2) → vItem (.tuple [.int x, .int y, .int z]) (.int k) = some (.int (if k = 1 then y else if k = 2 then z else x)) := by
    intro x y z k hk
    rcases hk with rfl | rfl | rfl <;> simp [vItem, idxOf, listLine]
  have hk3 : (if a = b then (1 : Int) else if a > b then 2 else 0) = 0 ∨ (if a = b then (1 : Int) else if a > b then 2 else 0) = 1 ∨ (if a = b then (1 : Int) else if a > b then 2 else 0) = 2 := by
    split
    · simp
    · split <;> simp
  have lt : ∀ (ks : List (Op × PyData)) (o' : Op) (d : PyData), (ks.map fun p => (p.1.enc, p.2)).lookup o'.enc = ((ks.lookup o')) := by
    intro ks o' d
    induction ks with
    | nil => rfl
    | cons p r ih =>
      rw [List.map_cons, List.lookup_cons, List.lookup_cons]
      have : (o'.enc == p.1.enc) = (o' == p.1) := by
        rw [Bool.eq_iff_iff]; simp [enc_inj]
      rw [this, ih]
  have hkv : kvs_law_holds = ([(.bin .lt, .tuple [.int 1, .int 0, .int 0]), (.bin .le, .tuple [.int 1, .int 1, .int 0]), (.bin .eq, .tuple [.int 0, .int 1, .int 0]), (.bin .ne, .tuple [.int 1, .int 0, .int 1]), (.bin .gt, .tuple [.int 0, .int 0, .int 1]), (.bin .ge, .tuple [.int 0, .int 1, .int 1])] : List (Op × PyData)).map fun p => (p.1.enc, p.2) := rfl
  cases o with
  | add => exact take (by rw [c1]; rfl) rfl
  | sub => rw [skip (by rw [c1]; rfl)]; exact take (by rw [c2]; rfl) rfl
  | mul =>
    rw [skip (by rw [c1]; rfl), skip (by rw [c2]; rfl)]
    refine take (by rw [c3]; rfl) (d2_of rfl rfl ?_)
    simp only [vMul]; rw [if_pos (h2 rfl)]; rfl
  | div =>
    have hb : b ≠ 0 := by simpa [noVal, B.dm] using h1
    rw [skip (by rw [c1]; rfl), skip (by rw [c2]; rfl), skip (by rw [c3]; rfl)]
    refine take (by rw [c4]; rfl) (d2_of rfl rfl ?_)
    simp only [vDiv]; rw [if_neg hb]; rfl
  | mod =>
    have hb : b ≠ 0 := by simpa [noVal, B.dm] using h1
    rw [skip (by rw [c1]; rfl), skip (by rw [c2]; rfl), skip (by rw [c3]; rfl), skip (by rw [c4]; rfl)]
    refine take (by rw [c5]; rfl) (d2_of rfl rfl ?_)
    simp only [vMod]; rw [if_neg hb]; rfl
  | lt =>
    rw [skip (by rw [c1]; rfl), skip (by rw [c2]; rfl), skip (by rw [c3]; rfl), skip (by rw [c4]; rfl), skip (by rw [c5]; rfl)]
    refine tail rfl (by decide) (by decide) (by decide) (.tuple [.int 1, .int 0, .int 0]) (by rw [hkv, lt _ _ .none]; rfl) ?_
    rw [row3 _ _ _ _ hk3]
    congr 2
    by_cases e1 : a = b <;> by_cases e2 : a > b <;> simp [e1, e2, B.val, b01] <;> omega
  | le =>
    rw [skip (by rw [c1]; rfl), skip (by rw [c2]; rfl), skip (by rw [c3]; rfl), skip (by rw [c4]; rfl), skip (by rw [c5]; rfl)]
    refine tail rfl (by decide) (by decide) (by decide) (.tuple [.int 1, .int 1, .int 0]) (by rw [hkv, lt _ _ .none]; rfl) ?_
    rw [row3 _ _ _ _ hk3]
    congr 2
    by_cases e1 : a = b <;> by_cases e2 : a > b <;> simp [e1, e2, B.val, b01] <;> omega
  | eq =>
    rw [skip (by rw [c1]; rfl), skip (by rw [c2]; rfl), skip (by rw [c3]; rfl), skip (by rw [c4]; rfl), skip (by rw [c5]; rfl)]
    refine tail rfl (by decide) (by decide) (by decide) (.tuple [.int 0, .int 1, .int 0]) (by rw [hkv, lt _ _ .none]; rfl) ?_
    rw [row3 _ _ _ _ hk3]
    congr 2
    by_cases e1 : a = b <;> by_cases e2 : a > b <;> simp [e1, e2, B.val, b01]
  | ne =>
    rw [skip (by rw [c1]; rfl), skip (by rw [c2]; rfl), skip (by rw [c3]; rfl), skip (by rw [c4]; rfl), skip (by rw [c5]; rfl)]
    refine tail rfl (by decide) (by decide) (by decide) (.tuple [.int 1, .int 0, .int 1]) (by rw [hkv, lt _ _ .none]; rfl) ?_
    rw [row3 _ _ _ _ hk3]
    congr 2
    by_cases e1 : a = b <;> by_cases e2 : a > b <;> simp [e1, e2, B.val, b01]
  | gt =>
    rw [skip (by rw [c1]; rfl), skip (by rw [c2]; rfl), skip (by rw [c3]; rfl), skip (by rw [c4]; rfl), skip (by rw [c5]; rfl)]
    refine tail rfl (by decide) (by decide) (by decide) (.tuple [.int 0, .int 0, .int 1]) (by rw [hkv, lt _ _ .none]; rfl) ?_
    rw [row3 _ _ _ _ hk3]
    congr 2
    by_cases e1 : a = b <;> by_cases e2 : a > b <;> simp [e1, e2, B.val, b01] <;> omega
  | ge =>
    rw [skip (by rw [c1]; rfl), skip (by rw [c2]; rfl), skip (by rw [c3]; rfl), skip (by rw [c4]; rfl), skip (by rw [c5]; rfl)]
    refine tail rfl (by decide) (by decide) (by decide) (.tuple [.int 0, .int 1, .int 1]) (by rw [hkv, lt _ _ .none]; rfl) ?_
    rw [row3 _ _ _ _ hk3]
    congr 2
    by_cases e1 : a = b <;> by_cases e2 : a > b <;> simp [e1, e2, B.val, b01] <;> omega
end Mine
end
section
namespace Mine
abbrev Lab := I × Bool
noncomputable def sh1 (L : List Lab) (m : Bool) (x : I) : List Lab :=
  match L with
  | ((.push, v), lb) :: L' =>
    if m then (x, m) :: ((.push, v), lb) :: L'
    else match una v x.1 with
      | some z => ((.push, z), lb) :: L'
      | none => match x.1, L' with
        | .bin o, ((.push, u), lb') :: L'' => if lb = false ∧ noVal o v = false then ((.push, o.val u v), lb') :: L'' else (x, false) :: ((.push, v), lb) :: ((.push, u), lb') :: L''
        | _, L' => (x, false) :: ((.push, v), lb) :: L'
  | L => (x, m) :: L
noncomputable def sstep (t : Bool) (x : I) (p : List Lab × Bool) : List Lab × Bool := if x.1 = .nop then (p.1, p.2 || t) else (sh1 p.1 (p.2 || t) x, false)
noncomputable def srun (t : Nat → Bool) : Nat → List I → List Lab × Bool → List Lab × List Nat
  | _, [], p => (p.1, [p.1.length])
  | i, x :: r, p => ((srun t (i + 1) r (sstep (t i) x p)).1, p.1.length :: (srun t (i + 1) r (sstep (t i) x p)).2)
noncomputable def Seg (b : Prop) : List Lab → Prop
  | [] => True
  | [x] => b → x.2 = true
  | x :: y :: r => x.2 = false ∧ Seg b (y :: r)
structure Corr (p : List Lab × Bool) (q : List I × List I) (H Lo : List Lab) : Prop where
  l : p.1 = H ++ Lo
  h : H.map (·.1) = q.2
  lo : Lo.map (·.1) = q.1
  seg : Seg (Lo ≠ []) H
  m : p.2 = true → H = []
  e : H = [] → p.2 = true ∨ Lo = []
theorem corr_fence {p : List Lab × Bool} {q : List I × List I} {H Lo : List Lab} (c : Corr p q H Lo) (t : Bool) : ∃ H' Lo', Corr (p.1, p.2 || t) (fence t q) H' Lo' := by
  cases t with
  | false => exact ⟨H, Lo, by simpa [fence] using c.l, by simpa [fence] using c.h, by simpa [fence] using c.lo, c.seg, by simpa using c.m, by simpa using c.e⟩
  | true => exact ⟨[], H ++ Lo, by simpa using c.l, by simp [fence], by simp [fence, c.h, c.lo], trivial, fun _ => rfl, fun _ => .inl (by simp)⟩
theorem corr_put {L : List Lab} {m : Bool} {q : List I × List I} {H Lo : List Lab} (c : Corr (L, m) q H Lo) (x : I) : ∃ H' Lo', Corr (sh1 L m x, false) (q.1, put q.2 x) H' Lo' := by
  obtain ⟨hl, hh, hlo, hs, hm, he⟩ := c
  simp only at hl hm he
  cases m with
  | true =>
    have hH := hm rfl
    subst hH
    simp only [List.map_nil] at hh
    have hsh : sh1 L true x = (x, true) :: L := by
      unfold sh1
      split <;> simp
    refine ⟨[(x, true)], Lo, by rw [hsh, hl]; rfl, by rw [← hh]; simp [put], hlo, fun _ => rfl, fun h => by simp at h, fun h => by simp at h⟩
  | false =>
    cases H with
    | nil =>
      have hLo : Lo = [] := (he rfl).resolve_left (by simp)
      subst hLo
      simp only [List.map_nil] at hh
      have hL : L = [] := by simpa using hl
      subst hL
      refine ⟨[(x, false)], [], rfl, by rw [← hh]; simp [put], hlo, (fun h => absurd rfl h), fun h => by simp at h, fun h => by simp at h⟩
    | cons h1 Hr =>
      obtain ⟨⟨o1, v⟩, f1⟩ := h1
      have app : sh1 L false x = (x, false) :: L → put q.2 x = x :: q.2 → ∃ H' Lo', Corr (sh1 L false x, false) (q.1, put q.2 x) H' Lo' := fun e1 e2 =>
        ⟨(x, false) :: ((o1, v), f1) :: Hr, Lo, by rw [e1, hl]; rfl, by rw [e2, ← hh]; rfl, hlo, ⟨rfl, hs⟩, fun h => by simp at h, fun h => by simp at h⟩
      simp only [List.map_cons] at hh
      by_cases ho : o1 = .push
      · subst ho
        cases hu : una v x.1 with
        | some z =>
          refine ⟨((.push, z), f1) :: Hr, Lo, ?_, ?_, hlo, ?_, fun h => by simp at h, fun h => by simp at h⟩
          · rw [hl]; simp [sh1, hu]
          · rw [← hh]; simp [put, hu]
          · cases Hr with
            | nil => exact hs
            | cons => exact hs
        | none =>
          cases Hr with
          | nil =>
            refine app ?_ ?_
            · rw [hl]
              simp only [List.cons_append, List.nil_append, sh1, hu]
              simp only [Bool.false_eq_true, if_false]
              split
              · rename_i o u lb' L'' hx
                split
                · rename_i hc
                  have := hs (by simp)
                  rw [hc.1] at this; cases this
                · rfl
              · rfl
            · rw [← hh]
              simp only [put, hu, List.map_nil]
              split
              · rename_i h; cases h
              · rfl
          | cons h2 Hr =>
            obtain ⟨⟨o2, u⟩, f2⟩ := h2
            have hf1 : f1 = false := hs.1
            subst hf1
            by_cases hc : ∃ o, x.1 = .bin o ∧ o2 = .push ∧ noVal o v = false
            · obtain ⟨o, hx, h2, hv⟩ := hc
              subst h2
              refine ⟨((.push, o.val u v), f2) :: Hr, Lo, ?_, ?_, hlo, ?_, fun h => by simp at h, fun h => by simp at h⟩
              · rw [hl]; simp [sh1, una, hx, hv]
              · rw [← hh]; simp [put, una, hx, hv]
              · cases Hr with
                | nil => exact hs.2
                | cons => exact hs.2
            · refine app ?_ ?_
              · rw [hl]
                simp only [List.cons_append, sh1, hu]
                simp only [Bool.false_eq_true, if_false]
                split
                · rename_i o u' lb' L'' hx hL
                  split
                  · rename_i hcc
                    cases hL
                    exact absurd ⟨o, hx, rfl, hcc.2⟩ hc
                  · rename_i hL2 _; cases hL; rfl
                · rename_i hL; rfl
              · rw [← hh]
                simp only [put, hu, List.map_cons]
                split
                · rename_i o a' h' hx hL
                  split
                  · rfl
                  · rename_i hv
                    cases hL
                    exact absurd ⟨o, hx, rfl, by simpa using hv⟩ hc
                · rfl
      · refine app ?_ ?_
        · rw [hl]
          simp only [List.cons_append]
          unfold sh1
          split
          · rename_i h; cases h; exact absurd rfl ho
          · rfl
        · rw [← hh]
          unfold put
          split
          · rename_i h; cases h; exact absurd rfl ho
          · rfl
theorem srun_run (t : Nat → Bool) : ∀ (l : List I) (i : Nat) (p : List Lab × Bool) (q : List I × List I), (∃ H Lo, Corr p q H Lo) → (srun t i l p).1.map (·.1) = (run t i l q).1 ∧ (srun t i l p).2 = (run t i l q).2
  | [], i, p, q, ⟨H, Lo, c⟩ => by
    have h1 : p.1.map (·.1) = q.2 ++ q.1 := by rw [c.l, List.map_append, c.h, c.lo]
    refine ⟨h1, ?_⟩
    simp only [srun, run, len2]
    have := congrArg List.length h1
    simp at this
    rw [this]
  | x :: l, i, p, q, ⟨H, Lo, c⟩ => by
    have h1 : p.1.map (·.1) = q.2 ++ q.1 := by rw [c.l, List.map_append, c.h, c.lo]
    have hlen : p.1.length = len2 q := by
      have := congrArg List.length h1
      simpa [len2] using this
    have key : ∃ H' Lo', Corr (sstep (t i) x p) (stepG (t i) x q) H' Lo' := by
      obtain ⟨H1, Lo1, c1⟩ := corr_fence c (t i)
      unfold sstep stepG
      split
      · exact ⟨H1, Lo1, c1⟩
      · exact corr_put c1 x
    have ih := srun_run t l (i + 1) _ _ key
    simp only [srun, run]
    exact ⟨ih.1, by rw [ih.2, hlen]⟩
theorem srun_start (t : Nat → Bool) (l : List I) : (srun t 0 l ([], false)).1.map (·.1) = (run t 0 l ([], [])).1 ∧ (srun t 0 l ([], false)).2 = (run t 0 l ([], [])).2 :=
  srun_run t l 0 _ _ ⟨[], [], rfl, rfl, rfl, trivial, fun h => rfl, fun _ => .inr rfl⟩
theorem sh1_ws (L : List Lab) (m : Bool) (x : I) (hx : x.1 ≠ .nop) : ws ((sh1 L m x).map (·.1)) ≤ ws (L.map (·.1)) + wt x := by
  unfold sh1
  split
  · rename_i v lb L'
    split
    · simp [ws]; omega
    · split
      · rename_i z hu
        have := una_bt hu
        simp only [List.map_cons, ws, wt] at this ⊢
        simp at this ⊢
        omega
      · split
        · rename_i o u lb' L'' hxo
          split
          · rename_i hc
            have := bt_val o u v hc.2
            simp only [List.map_cons, ws, wt]
            simp [hxo]
            omega
          · simp [ws]; omega
        · simp [ws]; omega
  · simp [ws]; omega
end Mine
end
section
namespace Mine
open PySem
open PySem.SeqAt (shaped)
noncomputable def encL (l : Lab) : PyData := .tuple [.str l.1.1.enc, .int l.1.2, .bool l.2]
noncomputable def sent : PyData := .tuple [.str "", .int 0, .bool false]
noncomputable def encO : Option Lab → PyData
  | none => sent
  | some l => encL l
noncomputable def outL (L : List Lab) : PyData := .list (L.reverse.map encL)
noncomputable def bodyShort : DS := (sSeq [sUnpack [6, 7] (d2 vItem (dName 0) (dName 5)),
        sAppend 3 (d1 vLen (dName 2)),
        sIf (b2 vIn (dName 5) (dName 1)) (sSeq [sLet 4 (dLit (.bool true))]) (sSeq []),
        sIf (b2 vEq (dName 6) (dLit (.str "NOP"))) (sSeq [sCont]) (sSeq []),
        sUnpack [8, 9] (d2 vSliceFrom (d2 vAdd (dLst [(dTup [(dLit (.str "")), (dLit (.int 0)), (dLit (.bool false))]), (dTup [(dLit (.str "")), (dLit (.int 0)), (dLit (.bool false))])]) (dName 2)) (d1 vNeg (dLit (.int 2)))),
        sIf (bOr [(b2 vNe (d2 vItem (dName 9) (dLit (.int 0))) (dLit (.str "PUSH"))), (bOf (dName 4))]) (sSeq [sLet 2 (d2 vAdd (dName 2) (dLst [(dTup [(dName 6), (dName 7), (dName 4)])]))]) (sSeq [sIf (b2 vEq (dName 6) (dLit (.str "NEG"))) (sSeq [sLet 2 (d2 vAdd (d2 vSliceTo (dName 2) (d1 vNeg (dLit (.int 1)))) (dLst [(dTup [(dLit (.str "PUSH")), (d1 vNeg (d2 vItem (dName 9) (dLit (.int 1)))), (d2 vItem (dName 9) (dLit (.int 2)))])]))]) (sSeq [sIf (b2 vEq (dName 6) (dLit (.str "NOT"))) (sSeq [sLet 10 (dLit (.int 0)),
                    sIf (b2 vEq (d2 vItem (dName 9) (dLit (.int 1))) (dLit (.int 0))) (sSeq [sLet 10 (dLit (.int 1))]) (sSeq []),
                    sLet 2 (d2 vAdd (d2 vSliceTo (dName 2) (d1 vNeg (dLit (.int 1)))) (dLst [(dTup [(dLit (.str "PUSH")), (dName 10), (d2 vItem (dName 9) (dLit (.int 2)))])]))]) (sSeq [sIf (bAnd [(b2 vIn (dName 6) (dLit opsD)), (b2 vEq (d2 vItem (dName 8) (dLit (.int 0))) (dLit (.str "PUSH"))), (bNot (bOf (d2 vItem (dName 9) (dLit (.int 2))))), (bNot (bOf (dCall F_law_no_value [(aVal (dName 6)), (aVal (d2 vItem (dName 9) (dLit (.int 1))))])))]) (sSeq [sLet 2 (d2 vAdd (d2 vSliceTo (dName 2) (d1 vNeg (dLit (.int 2)))) (dLst [(dTup [(dLit (.str "PUSH")), (dCall F_law_value [(aVal (dName 6)), (aVal (d2 vItem (dName 8) (dLit (.int 1)))), (aVal (d2 vItem (dName 9) (dLit (.int 1))))]), (d2 vItem (dName 8) (dLit (.int 2)))])]))]) (sSeq [sLet 2 (d2 vAdd (dName 2) (dLst [(dTup [(dName 6), (dName 7), (dLit (.bool false))])]))])])])]),
        sLet 4 (dLit (.bool false))])
noncomputable def last2 : DE := (d2 vSliceFrom (d2 vAdd (dLst [(dTup [(dLit (.str "")), (dLit (.int 0)), (dLit (.bool false))]), (dTup [(dLit (.str "")), (dLit (.int 0)), (dLit (.bool false))])]) (dName 2)) (d1 vNeg (dLit (.int 2))))
noncomputable def chainS : DS := sIf (bOr [(b2 vNe (d2 vItem (dName 9) (dLit (.int 0))) (dLit (.str "PUSH"))), (bOf (dName 4))]) (sSeq [sLet 2 (d2 vAdd (dName 2) (dLst [(dTup [(dName 6), (dName 7), (dName 4)])]))]) (sSeq [sIf (b2 vEq (dName 6) (dLit (.str "NEG"))) (sSeq [sLet 2 (d2 vAdd (d2 vSliceTo (dName 2) (d1 vNeg (dLit (.int 1)))) (dLst [(dTup [(dLit (.str "PUSH")), (d1 vNeg (d2 vItem (dName 9) (dLit (.int 1)))), (d2 vItem (dName 9) (dLit (.int 2)))])]))]) (sSeq [sIf (b2 vEq (dName 6) (dLit (.str "NOT"))) (sSeq [sLet 10 (dLit (.int 0)),
                    sIf (b2 vEq (d2 vItem (dName 9) (dLit (.int 1))) (dLit (.int 0))) (sSeq [sLet 10 (dLit (.int 1))]) (sSeq []),
                    sLet 2 (d2 vAdd (d2 vSliceTo (dName 2) (d1 vNeg (dLit (.int 1)))) (dLst [(dTup [(dLit (.str "PUSH")), (dName 10), (d2 vItem (dName 9) (dLit (.int 2)))])]))]) (sSeq [sIf (bAnd [(b2 vIn (dName 6) (dLit opsD)), (b2 vEq (d2 vItem (dName 8) (dLit (.int 0))) (dLit (.str "PUSH"))), (bNot (bOf (d2 vItem (dName 9) (dLit (.int 2))))), (bNot (bOf (dCall F_law_no_value [(aVal (dName 6)), (aVal (d2 vItem (dName 9) (dLit (.int 1))))])))]) (sSeq [sLet 2 (d2 vAdd (d2 vSliceTo (dName 2) (d1 vNeg (dLit (.int 2)))) (dLst [(dTup [(dLit (.str "PUSH")), (dCall F_law_value [(aVal (dName 6)), (aVal (d2 vItem (dName 8) (dLit (.int 1)))), (aVal (d2 vItem (dName 9) (dLit (.int 1))))]), (d2 vItem (dName 8) (dLit (.int 2)))])]))]) (sSeq [sLet 2 (d2 vAdd (dName 2) (dLst [(dTup [(dName 6), (dName 7), (dLit (.bool false))])]))])])])])
theorem vIt0 (a : Str) (b : Int) (c : Bool) : vItem (.tuple [.str a, .int b, .bool c]) (.int 0) = some (.str a) := by simp [vItem, idxOf, listLine]
theorem vIt1 (a : Str) (b : Int) (c : Bool) : vItem (.tuple [.str a, .int b, .bool c]) (.int 1) = some (.int b) := by simp [vItem, idxOf, listLine]
theorem vIt2 (a : Str) (b : Int) (c : Bool) : vItem (.tuple [.str a, .int b, .bool c]) (.int 2) = some (.bool c) := by simp [vItem, idxOf, listLine]
theorem out_add {L : List Lab} {z : Lab} (h : L.length < listLine) : vAdd (outL L) (.list [encL z]) = some (outL (z :: L)) := by
  simp only [vAdd, outL, List.length_map, List.length_reverse, List.length_cons, List.length_nil]
  rw [if_pos (by omega)]
  simp
theorem clampNeg {n k : Nat} (h0 : 0 < k) (h : k ≤ n) : clamp n (-(k : Int)) = n - k := by
  unfold clamp
  rw [if_pos (by omega), if_neg (by omega)]
  omega
theorem out_to1 {a : Lab} {L : List Lab} (h : L.length < listLine) : vSliceTo (outL (a :: L)) (.int (-1)) = some (outL L) := by
  simp only [vSliceTo, outL, List.length_map, List.length_reverse, List.length_cons]
  rw [if_pos (by omega), show (-1 : Int) = -((1 : Nat) : Int) from rfl, clampNeg (by omega) (by omega)]
  simp
theorem out_to2 {a b : Lab} {L : List Lab} (h : L.length + 1 < listLine) : vSliceTo (outL (a :: b :: L)) (.int (-2)) = some (outL L) := by
  simp only [vSliceTo, outL, List.length_map, List.length_reverse, List.length_cons]
  rw [if_pos (by omega), show (-2 : Int) = -((2 : Nat) : Int) from rfl, clampNeg (by omega) (by omega)]
  simp
theorem last2_of {σ : St} {L : List Lab} (h2 : dName 2 σ = some (outL L)) (h : L.length + 2 ≤ listLine) : last2 σ = some (.list [encO L[1]?, encO L[0]?]) := by
  have e1 : vAdd (.list [sent, sent]) (outL L) = some (.list (sent :: sent :: L.reverse.map encL)) := by
    simp only [vAdd, outL, List.length_map, List.length_reverse, List.length_cons, List.length_nil]
    rw [if_pos (by omega)]; rfl
  have e2 : vSliceFrom (.list (sent :: sent :: L.reverse.map encL)) (.int (-2)) = some (.list [encO L[1]?, encO L[0]?]) := by
    simp only [vSliceFrom, List.length_map, List.length_reverse, List.length_cons]
    rw [if_pos (by omega), show (-2 : Int) = -((2 : Nat) : Int) from rfl, clampNeg (by omega) (by omega)]
    congr 2
    rw [show L.length + 1 + 1 - 2 = L.length by omega]
    match L with
    | [] => rfl
    | [a] => rfl
    | a :: b :: r =>
      simp only [List.length_cons, List.drop_succ_cons, List.reverse_cons, List.map_append, List.append_assoc]
      rw [List.drop_append_of_le_length (by simp)]
      simp [encO]
  exact d2_of (d2_of (lst_of (all_cons (d := sent) rfl (all_cons (d := sent) rfl all_nil))) h2 e1) rfl e2
theorem strOk_nil : PyData.strOk "" = true := by decide +kernel
theorem nil_push : vEq (.str "") (.str "PUSH") = some false := by decide +kernel
theorem nil_push' : vNe (.str "") (.str "PUSH") = some true := by decide +kernel
noncomputable def isP : Option Lab → Bool
  | some ((.push, _), _) => true
  | _ => false
theorem isP_inv {L : List Lab} (h : isP L[0]? = true) : ∃ v lb L', L = ((.push, v), lb) :: L' := by
  cases L with
  | nil => simp [isP] at h
  | cons a L' =>
    obtain ⟨⟨op, v⟩, lb⟩ := a
    cases op <;> simp [isP] at h
    exact ⟨v, lb, L', rfl⟩
theorem top0 (o : Option Lab) : (match vItem (encO o) (.int 0) with | some x => vNe x (.str "PUSH") | none => none) = some (!isP o) := by
  cases o with
  | none => simp only [encO, sent, vIt0]; exact nil_push'
  | some l =>
    obtain ⟨⟨op, a⟩, b⟩ := l
    simp only [encO, encL, vIt0]
    refine (vNe_op op .push).trans ?_
    cases op <;> simp [isP]
theorem low0 (o : Option Lab) : (match vItem (encO o) (.int 0) with | some x => vEq x (.str "PUSH") | none => none) = some (isP o) := by
  cases o with
  | none => simp only [encO, sent, vIt0]; exact nil_push
  | some l =>
    obtain ⟨⟨op, a⟩, b⟩ := l
    simp only [encO, encL, vIt0]
    refine (vEq_op op .push).trans ?_
    cases op <;> simp [isP]
/-- the chain of cases at an instruction that is kept -/
theorem chain_turn {c s3 s5 s10 s11 s12 : Slot} {M : Slot} {L : List Lab} {m : Bool} {x : I} (hx : x.1 ≠ .nop) (hl : L.length + 4 ≤ listLine) (hw : ws (L.map (·.1)) + wt x ≤ 2 ^ 25) :
    ∃ t10, chainS [c, M, .val (outL L), s3, .val (.bool m), s5, .val (.str x.1.enc), .val (.int x.2), .val (encO L[1]?), .val (encO L[0]?), s10, s11, s12] = some (.next [c, M, .val (outL (sh1 L m x)), s3, .val (.bool m), s5, .val (.str x.1.enc), .val (.int x.2), .val (encO L[1]?), .val (encO L[0]?), t10, s11, s12]) := by
  have c1 : (bOr [(b2 vNe (d2 vItem (dName 9) (dLit (.int 0))) (dLit (.str "PUSH"))), (bOf (dName 4))]) [c, M, .val (outL L), s3, .val (.bool m), s5, .val (.str x.1.enc), .val (.int x.2), .val (encO L[1]?), .val (encO L[0]?), s10, s11, s12] = some (!isP L[0]? || m) := by
    have a1 : (b2 vNe (d2 vItem (dName 9) (dLit (.int 0))) (dLit (.str "PUSH"))) [c, M, .val (outL L), s3, .val (.bool m), s5, .val (.str x.1.enc), .val (.int x.2), .val (encO L[1]?), .val (encO L[0]?), s10, s11, s12] = some (!isP L[0]?) := top0 _
    have a2 : (bOf (dName 4)) [c, M, .val (outL L), s3, .val (.bool m), s5, .val (.str x.1.enc), .val (.int x.2), .val (encO L[1]?), .val (encO L[0]?), s10, s11, s12] = some m := rfl
    simp only [bOr, a1, a2]
    cases isP L[0]? <;> cases m <;> rfl
  unfold chainS
  by_cases hc : (!isP L[0]? || m) = true
  · have hs : sh1 L m x = (x, m) :: L := by
      unfold sh1
      split
      · rename_i v lb L'
        have : m = true := by simpa [isP] using hc
        rw [if_pos this]
      · rfl
    rw [hs]
    refine ⟨s10, ?_⟩
    rw [if_t (by rw [c1, hc])]
    refine (seq_next (let_of (d2_of (x := outL L) (y := .list [encL (x, m)]) rfl rfl (out_add (by omega))))).trans rfl
  · have hc' : (!isP L[0]? || m) = false := by simpa using hc
    have hm : m = false := by simp at hc'; exact hc'.2
    subst hm
    rw [if_f (by rw [c1, hc'])]
    have hp : isP L[0]? = true := by simpa using hc'
    obtain ⟨v, lb, L', rfl⟩ := isP_inv hp
    · simp only [List.length_cons] at hl
      have v1 : (b2 vEq (dName 6) (dLit (.str "NEG"))) [c, M, .val (outL (((.push, v), lb) :: L')), s3, .val (.bool false), s5, .val (.str x.1.enc), .val (.int x.2), .val (encO (((.push, v), lb) :: L')[1]?), .val (encO (((.push, v), lb) :: L')[0]?), s10, s11, s12] = some (decide (x.1 = .neg)) := vEq_op x.1 .neg
      have v2 : (b2 vEq (dName 6) (dLit (.str "NOT"))) [c, M, .val (outL (((.push, v), lb) :: L')), s3, .val (.bool false), s5, .val (.str x.1.enc), .val (.int x.2), .val (encO (((.push, v), lb) :: L')[1]?), .val (encO (((.push, v), lb) :: L')[0]?), s10, s11, s12] = some (decide (x.1 = .not)) := vEq_op x.1 .not
      by_cases hneg : x.1 = .neg
      · refine ⟨s10, ?_⟩
        have hs : sh1 (((.push, v), lb) :: L') false x = ((.push, -v), lb) :: L' := by simp [sh1, una, hneg]
        rw [hs]
        refine (seq_next ?_).trans rfl
        rw [if_t (by rw [v1]; simp [hneg])]
        refine (seq_next (let_of (d2_of (x := outL L') (y := .list [encL ((.push, -v), lb)]) ?_ ?_ (out_add (by omega))))).trans rfl
        · exact d2_of rfl rfl (out_to1 (by omega))
        · exact lst_of (all_cons (tup_of (all_cons (d := .str Op.push.enc) rfl (all_cons (d := .int (-v)) (d1_of (d2_of rfl rfl (vIt1 _ _ _)) rfl) (all_cons (d := .bool lb) (d2_of rfl rfl (vIt2 _ _ _)) all_nil)))) all_nil)
      · by_cases hnot : x.1 = .not
        · refine ⟨.val (.int (b01 (decide (v = 0)))), ?_⟩
          have hs : sh1 (((.push, v), lb) :: L') false x = ((.push, b01 (decide (v = 0))), lb) :: L' := by simp [sh1, una, hnot]
          rw [hs]
          refine (seq_next ?_).trans rfl
          rw [if_f (by rw [v1]; simp [hneg])]
          refine (seq_next ?_).trans rfl
          rw [if_t (by rw [v2]; simp [hnot])]
          rw [seq_next (σ' := [c, M, .val (outL (((.push, v), lb) :: L')), s3, .val (.bool false), s5, .val (.str x.1.enc), .val (.int x.2), .val (encO (((.push, v), lb) :: L')[1]?), .val (encO (((.push, v), lb) :: L')[0]?), .val (.int 0), s11, s12]) rfl]
          have cz : (b2 vEq (d2 vItem (dName 9) (dLit (.int 1))) (dLit (.int 0))) [c, M, .val (outL (((.push, v), lb) :: L')), s3, .val (.bool false), s5, .val (.str x.1.enc), .val (.int x.2), .val (encO (((.push, v), lb) :: L')[1]?), .val (encO (((.push, v), lb) :: L')[0]?), .val (.int 0), s11, s12] = some (decide (v = 0)) := b2_of (d2_of rfl rfl (vIt1 _ _ _)) rfl (vEq_int v 0)
          rw [seq_next (σ' := [c, M, .val (outL (((.push, v), lb) :: L')), s3, .val (.bool false), s5, .val (.str x.1.enc), .val (.int x.2), .val (encO (((.push, v), lb) :: L')[1]?), .val (encO (((.push, v), lb) :: L')[0]?), .val (.int (b01 (decide (v = 0)))), s11, s12]) (by
            by_cases hz : v = 0
            · rw [if_t (by rw [cz]; simp [hz]), decide_eq_true hz]; rfl
            · rw [if_f (by rw [cz]; simp [hz]), decide_eq_false hz]; rfl)]
          refine (seq_next (let_of (d2_of (x := outL L') (y := .list [encL ((.push, b01 (decide (v = 0))), lb)]) ?_ ?_ (out_add (by omega))))).trans rfl
          · exact d2_of rfl rfl (out_to1 (by omega))
          · exact lst_of (all_cons (tup_of (all_cons (d := .str Op.push.enc) rfl (all_cons (d := .int (b01 (decide (v = 0)))) rfl (all_cons (d := .bool lb) (d2_of rfl rfl (vIt2 _ _ _)) all_nil)))) all_nil)
        · have hu : una v x.1 = none := by
            cases hy : x.1 <;> simp_all [una]
          refine ⟨s10, ?_⟩
          refine (seq_next ?_).trans rfl
          rw [if_f (by rw [v1]; simp [hneg])]
          refine (seq_next ?_).trans rfl
          rw [if_f (by rw [v2]; simp [hnot])]
          refine (seq_next ?_).trans rfl
          have a1 : (b2 vIn (dName 6) (dLit opsD)) [c, M, .val (outL (((.push, v), lb) :: L')), s3, .val (.bool false), s5, .val (.str x.1.enc), .val (.int x.2), .val (encO (((.push, v), lb) :: L')[1]?), .val (encO (((.push, v), lb) :: L')[0]?), s10, s11, s12] = some x.1.isB := vIn_ops x.1
          have a2 : (b2 vEq (d2 vItem (dName 8) (dLit (.int 0))) (dLit (.str "PUSH"))) [c, M, .val (outL (((.push, v), lb) :: L')), s3, .val (.bool false), s5, .val (.str x.1.enc), .val (.int x.2), .val (encO (((.push, v), lb) :: L')[1]?), .val (encO (((.push, v), lb) :: L')[0]?), s10, s11, s12] = some (isP L'[0]?) := low0 _
          have a3 : (bNot (bOf (d2 vItem (dName 9) (dLit (.int 2))))) [c, M, .val (outL (((.push, v), lb) :: L')), s3, .val (.bool false), s5, .val (.str x.1.enc), .val (.int x.2), .val (encO (((.push, v), lb) :: L')[1]?), .val (encO (((.push, v), lb) :: L')[0]?), s10, s11, s12] = some (!lb) := by
            show Option.map (! ·) (match vItem (encL ((.push, v), lb)) (.int 2) with | some x => vTruth x | none => none) = _
            rw [encL, vIt2]; rfl
          have els : ∀ {cond : DB} {tt : DS}, cond [c, M, .val (outL (((.push, v), lb) :: L')), s3, .val (.bool false), s5, .val (.str x.1.enc), .val (.int x.2), .val (encO (((.push, v), lb) :: L')[1]?), .val (encO (((.push, v), lb) :: L')[0]?), s10, s11, s12] = some false → sIf cond tt (sSeq [sLet 2 (d2 vAdd (dName 2) (dLst [(dTup [(dName 6), (dName 7), (dLit (.bool false))])]))]) [c, M, .val (outL (((.push, v), lb) :: L')), s3, .val (.bool false), s5, .val (.str x.1.enc), .val (.int x.2), .val (encO (((.push, v), lb) :: L')[1]?), .val (encO (((.push, v), lb) :: L')[0]?), s10, s11, s12] = some (.next [c, M, .val (outL ((x, false) :: ((.push, v), lb) :: L')), s3, .val (.bool false), s5, .val (.str x.1.enc), .val (.int x.2), .val (encO (((.push, v), lb) :: L')[1]?), .val (encO (((.push, v), lb) :: L')[0]?), s10, s11, s12]) := by
            intro cond tt h
            rw [if_f h]
            exact (seq_next (let_of (d2_of (x := outL (((.push, v), lb) :: L')) (y := .list [encL (x, false)]) rfl rfl (out_add (by simp only [List.length_cons]; omega))))).trans rfl
          by_cases hB : ∃ o u lb' L'', x.1 = .bin o ∧ L' = ((.push, u), lb') :: L''
          · obtain ⟨o, u, lb', L'', hxo, rfl⟩ := hB
            have a4 : (bNot (bOf (dCall F_law_no_value [(aVal (dName 6)), (aVal (d2 vItem (dName 9) (dLit (.int 1))))]))) [c, M, .val (outL (((.push, v), lb) :: ((.push, u), lb') :: L'')), s3, .val (.bool false), s5, .val (.str x.1.enc), .val (.int x.2), .val (encO (((.push, v), lb) :: ((.push, u), lb') :: L'')[1]?), .val (encO (((.push, v), lb) :: ((.push, u), lb') :: L'')[0]?), s10, s11, s12] = some (!noVal o v) := by
              have : dCall F_law_no_value [(aVal (dName 6)), (aVal (d2 vItem (dName 9) (dLit (.int 1))))] [c, M, .val (outL (((.push, v), lb) :: ((.push, u), lb') :: L'')), s3, .val (.bool false), s5, .val (.str x.1.enc), .val (.int x.2), .val (encO (((.push, v), lb) :: ((.push, u), lb') :: L'')[1]?), .val (encO (((.push, v), lb) :: ((.push, u), lb') :: L'')[0]?), s10, s11, s12] = some (.bool (noVal o v)) := by
                refine call_of (ds := [.val (.str (Op.bin o).enc), .val (.int v)]) (aall_cons ?_ (aall_cons (d2_of rfl rfl (vIt1 _ _ _)) rfl)) (F_noval o v)
                rw [← hxo]; rfl
              unfold bNot bOf b1
              rw [this]; rfl
            have cB : (bAnd [(b2 vIn (dName 6) (dLit opsD)), (b2 vEq (d2 vItem (dName 8) (dLit (.int 0))) (dLit (.str "PUSH"))), (bNot (bOf (d2 vItem (dName 9) (dLit (.int 2))))), (bNot (bOf (dCall F_law_no_value [(aVal (dName 6)), (aVal (d2 vItem (dName 9) (dLit (.int 1))))])))]) [c, M, .val (outL (((.push, v), lb) :: ((.push, u), lb') :: L'')), s3, .val (.bool false), s5, .val (.str x.1.enc), .val (.int x.2), .val (encO (((.push, v), lb) :: ((.push, u), lb') :: L'')[1]?), .val (encO (((.push, v), lb) :: ((.push, u), lb') :: L'')[0]?), s10, s11, s12] = some (!lb && !noVal o v) := by
              have a1' : x.1.isB = true := by rw [hxo]; rfl
              have a2' : isP (((.push, u), lb') :: L'')[0]? = true := rfl
              simp only [bAnd, a1, a2, a3, a4, a1', a2']
              cases lb <;> cases noVal o v <;> rfl
            by_cases hcc : lb = false ∧ noVal o v = false
            · have hs : sh1 (((.push, v), lb) :: ((.push, u), lb') :: L'') false x = ((.push, o.val u v), lb') :: L'' := by
                simp only [sh1, hu, hxo, Bool.false_eq_true, if_false]
                rw [← hxo, hu]
                simp only [if_pos hcc]
              rw [hs]
              simp only [List.length_cons] at hl
              have hcan : Can o u v := by
                refine ⟨hcc.2, fun _ => ?_⟩
                simp only [List.map_cons, ws, wt] at hw
                simp at hw
                exact ⟨fac_bt (by omega), fac_bt (by omega)⟩
              rw [if_t (by rw [cB]; simp [hcc])]
              have hcall : dCall F_law_value [(aVal (dName 6)), (aVal (d2 vItem (dName 8) (dLit (.int 1)))), (aVal (d2 vItem (dName 9) (dLit (.int 1))))] [c, M, .val (outL (((.push, v), lb) :: ((.push, u), lb') :: L'')), s3, .val (.bool false), s5, .val (.str x.1.enc), .val (.int x.2), .val (encO (((.push, v), lb) :: ((.push, u), lb') :: L'')[1]?), .val (encO (((.push, v), lb) :: ((.push, u), lb') :: L'')[0]?), s10, s11, s12] = some (.int (o.val u v)) := by
                refine call_of (ds := [.val (.str (Op.bin o).enc), .val (.int u), .val (.int v)]) (aall_cons ?_ (aall_cons (d2_of rfl rfl (vIt1 _ _ _)) (aall_cons (d2_of rfl rfl (vIt1 _ _ _)) rfl))) (F_value hcan)
                rw [← hxo]; rfl
              refine (seq_next (let_of (d2_of (x := outL L'') (y := .list [encL ((.push, o.val u v), lb')]) ?_ ?_ (out_add (by omega))))).trans rfl
              · exact d2_of rfl rfl (out_to2 (by omega))
              · exact lst_of (all_cons (tup_of (all_cons (d := .str Op.push.enc) rfl (all_cons hcall (all_cons (d := .bool lb') (d2_of rfl rfl (vIt2 _ _ _)) all_nil)))) all_nil)
            · have hs : sh1 (((.push, v), lb) :: ((.push, u), lb') :: L'') false x = (x, false) :: ((.push, v), lb) :: ((.push, u), lb') :: L'' := by
                simp only [sh1, hu, hxo, Bool.false_eq_true, if_false]
                rw [← hxo, hu]
                simp only [if_neg hcc]
              rw [hs]
              refine els ?_
              rw [cB]
              congr 1
              cases lb <;> cases hnv : noVal o v <;> simp_all
          · have hs : sh1 (((.push, v), lb) :: L') false x = (x, false) :: ((.push, v), lb) :: L' := by
              simp only [sh1, hu, Bool.false_eq_true, if_false]
              split
              · rename_i o u lb' L'' hxo
                exact absurd ⟨o, u, lb', L'', hxo, rfl⟩ hB
              · rfl
            rw [hs]
            refine els ?_
            simp only [bAnd, a1, a2]
            cases hb : x.1.isB with
            | false => rfl
            | true =>
              cases hpl : isP L'[0]? with
              | false => rfl
              | true =>
                exfalso
                cases hxo : x.1 with
                | bin o =>
                  obtain ⟨u, lb', L'', hL'⟩ := isP_inv hpl
                  exact hB ⟨o, u, lb', L'', hxo, hL'⟩
                | _ => rw [hxo] at hb; cases hb
end Mine
end
section
namespace Mine
open PySem
open PySem.SeqAt (shaped)
theorem out_len {L : List Lab} (h : L.length ≤ listLine) : vLen (outL L) = some (.int (L.length : Int)) := by simp [vLen, outL, h]
theorem short_turn {c : List I} {M : List Int} {t : Nat → Bool} (hT : ∀ j : Nat, decide ((j : Int) ∈ M) = t j) {L : List Lab} {m : Bool} {sp : List Nat} {i : Nat} {x : I} (hi : c[i]? = some x) (hc : c.length ≤ listLine) (hl : L.length + 4 ≤ listLine) (hsp : sp.length ≤ listLine) (hw : ws (L.map (·.1)) + wt x ≤ 2 ^ 25) {s6 s7 s8 s9 s10 s11 s12 : Slot} :
    ∃ t6 t7 t8 t9 t10, Goes (bodyShort [.val (encC c), .val (iL M), .val (outL L), .own (sp.map fun k : Nat => .int (k : Int)), .val (.bool m), .val (.int (i : Int)), s6, s7, s8, s9, s10, s11, s12])
      [.val (encC c), .val (iL M), .val (outL (sstep (t i) x (L, m)).1), .own ((sp ++ [L.length]).map fun k : Nat => .int (k : Int)), .val (.bool (sstep (t i) x (L, m)).2), .val (.int (i : Int)), t6, t7, t8, t9, t10, s11, s12] := by
  unfold bodyShort
  have u1 : sUnpack [6, 7] (d2 vItem (dName 0) (dName 5)) [.val (encC c), .val (iL M), .val (outL L), .own (sp.map fun k : Nat => .int (k : Int)), .val (.bool m), .val (.int (i : Int)), s6, s7, s8, s9, s10, s11, s12] = some (.next [.val (encC c), .val (iL M), .val (outL L), .own (sp.map fun k : Nat => .int (k : Int)), .val (.bool m), .val (.int (i : Int)), .val (.str x.1.enc), .val (.int x.2), s8, s9, s10, s11, s12]) := unpack_of (d2_of rfl rfl (item_get hi hc)) rfl
  have a1 : sAppend 3 (d1 vLen (dName 2)) [.val (encC c), .val (iL M), .val (outL L), .own (sp.map fun k : Nat => .int (k : Int)), .val (.bool m), .val (.int (i : Int)), .val (.str x.1.enc), .val (.int x.2), s8, s9, s10, s11, s12] = some (.next [.val (encC c), .val (iL M), .val (outL L), .own ((sp ++ [L.length]).map fun k : Nat => .int (k : Int)), .val (.bool m), .val (.int (i : Int)), .val (.str x.1.enc), .val (.int x.2), s8, s9, s10, s11, s12]) := by
    unfold sAppend
    rw [d1_of rfl (out_len (by omega))]
    simp only [List.getElem?_cons_zero, List.getElem?_cons_succ, List.length_map]
    rw [if_pos hsp]
    simp
  have c1 : (b2 vIn (dName 5) (dName 1)) [.val (encC c), .val (iL M), .val (outL L), .own ((sp ++ [L.length]).map fun k : Nat => .int (k : Int)), .val (.bool m), .val (.int (i : Int)), .val (.str x.1.enc), .val (.int x.2), s8, s9, s10, s11, s12] = some (t i) := by
    refine (vIn_int (i : Int) M).trans ?_
    rw [hT]
  have i1 : sIf (b2 vIn (dName 5) (dName 1)) (sSeq [sLet 4 (dLit (.bool true))]) (sSeq []) [.val (encC c), .val (iL M), .val (outL L), .own ((sp ++ [L.length]).map fun k : Nat => .int (k : Int)), .val (.bool m), .val (.int (i : Int)), .val (.str x.1.enc), .val (.int x.2), s8, s9, s10, s11, s12] = some (.next [.val (encC c), .val (iL M), .val (outL L), .own ((sp ++ [L.length]).map fun k : Nat => .int (k : Int)), .val (.bool (m || t i)), .val (.int (i : Int)), .val (.str x.1.enc), .val (.int x.2), s8, s9, s10, s11, s12]) := by
    cases ht : t i with
    | true => rw [if_t (by rw [c1, ht]), Bool.or_true]; rfl
    | false => rw [if_f (by rw [c1, ht]), Bool.or_false]; rfl
  have c2 : (b2 vEq (dName 6) (dLit (.str "NOP"))) [.val (encC c), .val (iL M), .val (outL L), .own ((sp ++ [L.length]).map fun k : Nat => .int (k : Int)), .val (.bool (m || t i)), .val (.int (i : Int)), .val (.str x.1.enc), .val (.int x.2), s8, s9, s10, s11, s12] = some (decide (x.1 = .nop)) := vEq_op x.1 .nop
  rw [seq_next u1, seq_next a1, seq_next i1]
  by_cases hx : x.1 = .nop
  · have hs : sstep (t i) x (L, m) = (L, m || t i) := by unfold sstep; rw [if_pos hx]
    rw [hs]
    refine ⟨.val (.str x.1.enc), .val (.int x.2), s8, s9, s10, .inr ?_⟩
    refine seq_cont ?_
    rw [if_t (by rw [c2]; simp [hx])]; rfl
  · have hs : sstep (t i) x (L, m) = (sh1 L (m || t i) x, false) := by unfold sstep; rw [if_neg hx]
    rw [hs]
    obtain ⟨t10, e⟩ := chain_turn (c := .val (encC c)) (M := .val (iL M)) (s3 := .own ((sp ++ [L.length]).map fun k : Nat => .int (k : Int))) (s5 := .val (.int (i : Int))) (s10 := s10) (s11 := s11) (s12 := s12) (L := L) (m := m || t i) hx hl hw
    refine ⟨.val (.str x.1.enc), .val (.int x.2), .val (encO L[1]?), .val (encO L[0]?), t10, .inl ?_⟩
    rw [seq_next (σ' := [.val (encC c), .val (iL M), .val (outL L), .own ((sp ++ [L.length]).map fun k : Nat => .int (k : Int)), .val (.bool (m || t i)), .val (.int (i : Int)), .val (.str x.1.enc), .val (.int x.2), s8, s9, s10, s11, s12]) (by rw [if_f (by rw [c2]; simp [hx])]; rfl)]
    have l2 : last2 [.val (encC c), .val (iL M), .val (outL L), .own ((sp ++ [L.length]).map fun k : Nat => .int (k : Int)), .val (.bool (m || t i)), .val (.int (i : Int)), .val (.str x.1.enc), .val (.int x.2), s8, s9, s10, s11, s12] = some (.list [encO L[1]?, encO L[0]?]) := last2_of rfl (by omega)
    refine (seq_next (unpack_of (σ' := [.val (encC c), .val (iL M), .val (outL L), .own ((sp ++ [L.length]).map fun k : Nat => .int (k : Int)), .val (.bool (m || t i)), .val (.int (i : Int)), .val (.str x.1.enc), .val (.int x.2), .val (encO L[1]?), .val (encO L[0]?), s10, s11, s12]) l2 rfl)).trans ?_
    refine (seq_next e).trans ?_
    rfl
theorem sh1_len (L : List Lab) (m : Bool) (x : I) : (sh1 L m x).length ≤ L.length + 1 := by
  unfold sh1
  split
  · split
    · simp
    · split
      · simp
      · split
        · split <;> simp
        · simp
  · simp
theorem short_loop {c : List I} {M : List Int} {t : Nat → Bool} (hT : ∀ j : Nat, decide ((j : Int) ∈ M) = t j) (hc : c.length ≤ listLine) {s11 s12 : Slot} : ∀ (rest : List I) (i : Nat) (L : List Lab) (m : Bool) (sp : List Nat) (s5 s6 s7 s8 s9 s10 : Slot), c.drop i = rest → L.length + rest.length + 4 ≤ listLine → sp.length + rest.length ≤ listLine → ws (L.map (·.1)) + ws rest ≤ 2 ^ 25 →
    ∃ sp' m' t5 t6 t7 t8 t9 t10, loop (toOne 5) bodyShort ((iota (i : Int) rest.length).map .int) [.val (encC c), .val (iL M), .val (outL L), .own (sp.map fun k : Nat => .int (k : Int)), .val (.bool m), s5, s6, s7, s8, s9, s10, s11, s12]
      = some (.next [.val (encC c), .val (iL M), .val (outL (srun t i rest (L, m)).1), .own (sp'.map fun k : Nat => .int (k : Int)), .val (.bool m'), t5, t6, t7, t8, t9, t10, s11, s12]) ∧ sp' ++ [(srun t i rest (L, m)).1.length] = sp ++ (srun t i rest (L, m)).2
  | [], i, L, m, sp, s5, s6, s7, s8, s9, s10, _, _, _, _ => ⟨sp, m, s5, s6, s7, s8, s9, s10, rfl, rfl⟩
  | x :: r, i, L, m, sp, s5, s6, s7, s8, s9, s10, hd, hl, hsp, hw => by
    simp only [List.length_cons] at hl hsp
    have hi : c[i]? = some x := by
      have : (c.drop i)[0]? = some x := by rw [hd]; rfl
      simpa using this
    obtain ⟨t6, t7, t8, t9, t10, hg⟩ := short_turn (c := c) hT (L := L) (m := m) (sp := sp) (s6 := s6) (s7 := s7) (s8 := s8) (s9 := s9) (s10 := s10) (s11 := s11) (s12 := s12) hi hc (by omega) (by omega) (by simp only [ws] at hw; omega)
    have hln : (sstep (t i) x (L, m)).1.length ≤ L.length + 1 := by
      unfold sstep; split
      · simp
      · exact sh1_len ..
    have hws : ws ((sstep (t i) x (L, m)).1.map (·.1)) ≤ ws (L.map (·.1)) + wt x := by
      unfold sstep; split
      · simp
      · rename_i hx; exact sh1_ws _ _ _ hx
    obtain ⟨sp', m', u5, u6, u7, u8, u9, u10, e, e'⟩ := short_loop hT hc (s11 := s11) (s12 := s12) r (i + 1) (sstep (t i) x (L, m)).1 (sstep (t i) x (L, m)).2 (sp ++ [L.length]) (.val (.int (i : Int))) t6 t7 t8 t9 t10 (by
      rw [← List.drop_drop, hd]; rfl) (by omega) (by simp; omega) (by simp only [ws] at hw; omega)
    refine ⟨sp', m', u5, u6, u7, u8, u9, u10, ?_, ?_⟩
    · have hio : (iota (i : Int) (r.length + 1)).map PyData.int = .int (i : Int) :: (iota ((i + 1 : Nat) : Int) r.length).map .int := by
        simp only [iota, List.range_succ_eq_map, List.map_cons, List.map_map]
        simp [Function.comp_def]
        intro a _; omega
      rw [List.length_cons, hio]
      refine (loop_goes rfl hg).trans ?_
      exact e
    · rw [srun]
      simp only
      rw [e']
      simp
noncomputable def bodyDue : DS := sSeq [sIf (bAnd [(b2 vIn (dName 6) (dTup [(dLit (.str "JUMP")), (dLit (.str "JZ"))])), (bChain (dLit (.int 0)) (dName 7) (d1 vLen (dName 0)))]) (sSeq [sAppend 11 (dTup [(dName 6), (d2 vItem (dName 3) (dName 7))])]) (sSeq [sAppend 11 (dTup [(dName 6), (dName 7)])])]
theorem due_loop {c : List I} {s1 s2 s4 s5 s8 s9 s10 : Slot} {mv : List Nat} (hcl : c.length ≤ listLine) (hm : mv.length = c.length + 1) (hml : mv.length ≤ listLine) : ∀ (l : List Lab) (acc : List I) (s6 s7 s12 : Slot), acc.length + l.length ≤ listLine →
    ∃ t6 t7 t12, loop (unpackTo [6, 7, 12]) bodyDue (l.map encL) [.val (encC c), s1, s2, .val (nL mv), s4, s5, s6, s7, s8, s9, s10, .own (acc.map encI), s12] = some (.next [.val (encC c), s1, s2, .val (nL mv), s4, s5, t6, t7, s8, s9, s10, .own ((acc ++ (l.map (·.1)).map (rel c.length mv)).map encI), t12])
  | [], acc, s6, s7, s12, _ => ⟨s6, s7, s12, by simp; rfl⟩
  | y :: l, acc, s6, s7, s12, h => by
    simp only [List.length_cons] at h
    obtain ⟨x, b⟩ := y
    have h1 : unpackTo [6, 7, 12] (encL (x, b)) [.val (encC c), s1, s2, .val (nL mv), s4, s5, s6, s7, s8, s9, s10, .own (acc.map encI), s12] = some [.val (encC c), s1, s2, .val (nL mv), s4, s5, .val (.str x.1.enc), .val (.int x.2), s8, s9, s10, .own (acc.map encI), .val (.bool b)] := rfl
    have hvl : vLen (encC c) = some (.int (c.length : Int)) := by simp [vLen, encC, hcl]
    have c1 : bAnd [(b2 vIn (dName 6) (dTup [(dLit (.str "JUMP")), (dLit (.str "JZ"))])), (bChain (dLit (.int 0)) (dName 7) (d1 vLen (dName 0)))] [.val (encC c), s1, s2, .val (nL mv), s4, s5, .val (.str x.1.enc), .val (.int x.2), s8, s9, s10, .own (acc.map encI), .val (.bool b)] = some (x.1.isJ && decide (0 ≤ x.2 ∧ x.2 ≤ (c.length : Int))) := by
      have a1 : (b2 vIn (dName 6) (dTup [(dLit (.str "JUMP")), (dLit (.str "JZ"))])) [.val (encC c), s1, s2, .val (nL mv), s4, s5, .val (.str x.1.enc), .val (.int x.2), s8, s9, s10, .own (acc.map encI), .val (.bool b)] = some x.1.isJ := vIn_jumps x.1
      have a2 : bChain (dLit (.int 0)) (dName 7) (d1 vLen (dName 0)) [.val (encC c), s1, s2, .val (nL mv), s4, s5, .val (.str x.1.enc), .val (.int x.2), s8, s9, s10, .own (acc.map encI), .val (.bool b)] = some (decide (0 ≤ x.2 ∧ x.2 ≤ (c.length : Int))) := chain_of rfl rfl hvl
      simp only [bAnd, a1, a2]
      cases x.1.isJ <;> cases decide (0 ≤ x.2 ∧ x.2 ≤ (c.length : Int)) <;> rfl
    have ap : ∀ (e : DE) (z : I), e [.val (encC c), s1, s2, .val (nL mv), s4, s5, .val (.str x.1.enc), .val (.int x.2), s8, s9, s10, .own (acc.map encI), .val (.bool b)] = some (encI z) → sSeq [sAppend 11 e] [.val (encC c), s1, s2, .val (nL mv), s4, s5, .val (.str x.1.enc), .val (.int x.2), s8, s9, s10, .own (acc.map encI), .val (.bool b)] = some (.next [.val (encC c), s1, s2, .val (nL mv), s4, s5, .val (.str x.1.enc), .val (.int x.2), s8, s9, s10, .own ((acc ++ [z]).map encI), .val (.bool b)]) := by
      intro e z he
      refine (seq_next (σ' := [.val (encC c), s1, s2, .val (nL mv), s4, s5, .val (.str x.1.enc), .val (.int x.2), s8, s9, s10, .own ((acc ++ [z]).map encI), .val (.bool b)]) ?_).trans rfl
      unfold sAppend
      rw [he]
      simp only [List.getElem?_cons_zero, List.getElem?_cons_succ, List.length_map]
      rw [if_pos (by omega)]
      simp
    obtain ⟨t6, t7, t12, e⟩ := due_loop (s1 := s1) (s2 := s2) (s4 := s4) (s5 := s5) (s8 := s8) (s9 := s9) (s10 := s10) hcl hm hml l (acc ++ [rel c.length mv x]) (.val (.str x.1.enc)) (.val (.int x.2)) (.val (.bool b)) (by simp; omega)
    refine ⟨t6, t7, t12, ?_⟩
    have h3 : bodyDue [.val (encC c), s1, s2, .val (nL mv), s4, s5, .val (.str x.1.enc), .val (.int x.2), s8, s9, s10, .own (acc.map encI), .val (.bool b)] = some (.next [.val (encC c), s1, s2, .val (nL mv), s4, s5, .val (.str x.1.enc), .val (.int x.2), s8, s9, s10, .own ((acc ++ [rel c.length mv x]).map encI), .val (.bool b)]) := by
      unfold bodyDue
      refine (seq_next (σ' := [.val (encC c), s1, s2, .val (nL mv), s4, s5, .val (.str x.1.enc), .val (.int x.2), s8, s9, s10, .own ((acc ++ [rel c.length mv x]).map encI), .val (.bool b)]) ?_).trans rfl
      by_cases hj : x.1.isJ = true ∧ 0 ≤ x.2 ∧ x.2 ≤ (c.length : Int)
      · have hr : rel c.length mv x = (x.1, at' mv x.2) := by unfold rel; rw [if_pos hj]
        rw [if_t (by rw [c1]; simp [hj])]
        refine ap _ _ ?_
        rw [hr]
        exact tup_of (all_cons rfl (all_cons (d2_of rfl rfl (nL_at hj.2.1 (by omega) hml)) all_nil))
      · have hr : rel c.length mv x = x := by unfold rel; rw [if_neg hj]
        have hcf : (x.1.isJ && decide (0 ≤ x.2 ∧ x.2 ≤ (c.length : Int))) = false := by
          cases hh : (x.1.isJ && decide (0 ≤ x.2 ∧ x.2 ≤ (c.length : Int))) with
          | false => rfl
          | true => simp only [Bool.and_eq_true, decide_eq_true_eq] at hh; exact absurd hh hj
        rw [if_f (by rw [c1, hcf])]
        refine ap _ _ ?_
        rw [hr]; rfl
    rw [List.map_cons, loop_next h1 h3, e]
    simp
theorem F_shortOk {c : List I} {M : List Int} (hc : c.length < 2 ^ 18) (hw : ws c ≤ 2 ^ 25) : F_law_short [.val (encC c), .val (iL M)] = some (.tuple [encC ((run (tgs M) 0 c ([], [])).1.reverse.map (rel c.length (run (tgs M) 0 c ([], [])).2)), nL (run (tgs M) 0 c ([], [])).2]) := by
  have hcl : c.length ≤ listLine := by unfold listLine; omega
  have hT : ∀ j : Nat, decide ((j : Int) ∈ M) = tgs M j := fun j => rfl
  unfold F_law_short
  refine run_ret rfl ?_
  show D_law_short [.val (encC c), .val (iL M), .no, .no, .no, .no, .no, .no, .no, .no, .no, .no, .no] = _
  unfold D_law_short
  rw [seq_next (σ' := [.val (encC c), .val (iL M), .val (outL []), .no, .no, .no, .no, .no, .no, .no, .no, .no, .no]) rfl, seq_next (σ' := [.val (encC c), .val (iL M), .val (outL []), .own [], .no, .no, .no, .no, .no, .no, .no, .no, .no]) rfl,
    seq_next (σ' := [.val (encC c), .val (iL M), .val (outL []), .own [], .val (.bool false), .no, .no, .no, .no, .no, .no, .no, .no]) rfl]
  have hvl : vLen (encC c) = some (.int (c.length : Int)) := by simp [vLen, encC, hcl]
  have l2 : rangeTo (d1 vLen (dName 0)) [.val (encC c), .val (iL M), .val (outL []), .own [], .val (.bool false), .no, .no, .no, .no, .no, .no, .no, .no] = some ((iota 0 c.length).map .int) := by
    unfold rangeTo
    rw [d1_of rfl hvl]
    simp only
    rw [if_pos (by omega)]
    simp
  obtain ⟨sp', m', t5, t6, t7, t8, t9, t10, e, e'⟩ := short_loop (c := c) hT hcl (s11 := .no) (s12 := .no) c 0 [] false [] .no .no .no .no .no .no rfl (by unfold listLine; simp; omega) (by simpa using hcl) (by simpa [ws] using hw)
  refine (seq_next (for_of l2 e)).trans ?_
  have hs := srun_start (tgs M) c
  generalize hL : (srun (tgs M) 0 c ([], false)).1 = L at *
  generalize hq : (srun (tgs M) 0 c ([], false)).2 = mv at *
  have hmv : mv.length = c.length + 1 := by rw [hs.2, run_len]
  have hml : mv.length ≤ listLine := by rw [hmv]; unfold listLine; omega
  simp only [List.nil_append] at e'
  have hspl : sp'.length = c.length := by
    have := congrArg List.length e'
    rw [hmv] at this; simpa using this
  have hLl : L.length ≤ c.length := by
    have h1 : (run (tgs M) 0 c ([], [])).2[c.length]? = some L.length := by
      rw [← hs.2, ← e']
      rw [← hspl]; simp
    have key : ∀ (l : List I) (i : Nat) (q : List I × List I), (run (tgs M) i l q).1.length ≤ len2 q + l.length := by
      intro l
      induction l with
      | nil => intro i q; simp [run, len2]
      | cons x r ih =>
        intro i q
        have h2 : len2 (stepG (tgs M i) x q) ≤ len2 q + 1 := by
          unfold stepG
          split
          · rw [len2_fence]; omega
          · have h3 : ∀ hi : List I, (put hi x).length ≤ hi.length + 1 := by
              intro hi
              unfold put
              split
              · split
                · simp
                · split
                  · split <;> simp
                  · simp
              · simp
            have h4 := h3 (fence (tgs M i) q).2
            have h5 := len2_fence (tgs M i) q
            simp only [len2] at h5 ⊢
            omega
        have := ih (i + 1) (stepG (tgs M i) x q)
        simp only [run, List.length_cons]
        omega
    have h2 := key c 0 ([], [])
    have h3 := congrArg List.length hs.1
    simp [len2] at h2 h3
    omega
  have a1 : sAppend 3 (d1 vLen (dName 2)) [.val (encC c), .val (iL M), .val (outL L), .own (sp'.map fun k : Nat => .int (k : Int)), .val (.bool m'), t5, t6, t7, t8, t9, t10, .no, .no] = some (.next [.val (encC c), .val (iL M), .val (outL L), .own (mv.map fun k : Nat => .int (k : Int)), .val (.bool m'), t5, t6, t7, t8, t9, t10, .no, .no]) := by
    unfold sAppend
    rw [d1_of rfl (out_len (by omega))]
    simp only [List.getElem?_cons_zero, List.getElem?_cons_succ, List.length_map]
    rw [if_pos (by omega), ← e']
    simp
  rw [seq_next a1, seq_next (σ' := [.val (encC c), .val (iL M), .val (outL L), .val (nL mv), .val (.bool m'), t5, t6, t7, t8, t9, t10, .no, .no]) rfl, seq_next (σ' := [.val (encC c), .val (iL M), .val (outL L), .val (nL mv), .val (.bool m'), t5, t6, t7, t8, t9, t10, .own [], .no]) rfl]
  obtain ⟨u6, u7, u12, e2⟩ := due_loop (s1 := .val (iL M)) (s2 := .val (outL L)) (s4 := .val (.bool m')) (s5 := t5) (s8 := t8) (s9 := t9) (s10 := t10) hcl hmv hml L.reverse [] t6 t7 .no (by simp; omega)
  refine (seq_next (for_of (xs := L.reverse.map encL) rfl e2)).trans ?_
  have hfin : (([] : List I) ++ (L.reverse.map (·.1)).map (rel c.length mv)) = (run (tgs M) 0 c ([], [])).1.reverse.map (rel c.length (run (tgs M) 0 c ([], [])).2) := by
    rw [← hs.1, ← hs.2]; simp
  rw [hfin, hs.2]
  rfl
end Mine
end
section
namespace Mine
open PySem
open PySem.SeqAt (shaped)
noncomputable def rowsOf (o : B) (a b x y : Int) : List (List I) :=
  [[(.push, a), (.push, b), (.bin o, 0)], [(.push, b), (.push, a), (.bin o, 0)], [(.push, a), (.neg, 0)], [(.push, a), (.not, 0)], [(.bin o, 0)], [(.push, a), (.nop, y), (.push, b)], [(.nop, 0)], [(.jump, x)], [(.jz, x)], [(.push, a)], [(.load, y)], [(.push, x)]]
theorem rows_ok {o : B} {a b x y : Int} (ha : bt a ≤ 2) (hb : bt b ≤ 2) : ∀ ch ∈ rowsOf o a b x y, ch.length ≤ 3 ∧ ws ch ≤ bt x + bt y + 12 := by
  have h0 : bt 0 = 0 := rfl
  intro ch hch
  simp only [rowsOf, List.mem_cons, List.not_mem_nil, or_false] at hch
  rcases hch with rfl | rfl | rfl | rfl | rfl | rfl | rfl | rfl | rfl | rfl | rfl | rfl <;> simp [ws, wt, h0] <;> omega
theorem item_list {rows : List (List I)} {k : Nat} {ch : List I} (h : rows[k]? = some ch) (hn : rows.length ≤ listLine) : vItem (.list (rows.map encC)) (.int (k : Int)) = some (encC ch) := by
  have hk := (List.getElem?_eq_some_iff.mp h).1
  simp only [vItem, List.length_map, idx_nat hk hn, List.getElem?_map, h, Option.map_some]
theorem F_chunk {k x y : Int} (h0 : 0 ≤ k) (h1 : k < 12) (hy : bt y ≤ 2 ^ 25) : ∃ ch : List I, F_law_chunk [.val (.int k), .val (.int x), .val (.int y)] = some (encC ch) ∧ ch.length ≤ 3 ∧ ws ch ≤ bt x + bt y + 12 := by
  have f1 := fm_ok (x + 3 * y) (n := 11) (by decide)
  have f2 := fm_ok x (n := 7) (by decide)
  have f3 := fm_ok y (n := 7) (by decide)
  obtain ⟨o, ho, _⟩ := ops_at f1.1 f1.2
  obtain ⟨j, rfl⟩ := Int.eq_ofNat_of_zero_le h0
  have hj : j < (rowsOf o (x.fmod 7 - 3) (y.fmod 7 - 3) x y).length := by show j < 12; omega
  have hg := List.getElem?_eq_getElem hj
  have hp := rows_ok (o := o) (a := x.fmod 7 - 3) (b := y.fmod 7 - 3) (x := x) (y := y) (bt_small (by omega) (by omega)) (bt_small (by omega) (by omega)) _ (List.mem_of_getElem? hg)
  refine ⟨_, ?_, hp⟩
  unfold F_law_chunk
  refine run_ret rfl ?_
  show D_law_chunk [.val (.int (j : Int)), .val (.int x), .val (.int y), .no, .no, .no, .no] = _
  unfold D_law_chunk
  have hmul : vMul (.int 3) (.int y) = some (.int (3 * y)) := by
    simp only [vMul]
    rw [if_pos ⟨fac_bt (by decide), fac_bt hy⟩]
  rw [seq_next (let_of (d2_of (x := opsD) rfl (d2_of (d2_of rfl (d2_of rfl rfl hmul) rfl) rfl (vMod_pos _ (by decide))) ho))]
  refine (seq_next (let_of (d2_of (d2_of rfl rfl (vMod_pos x (by decide))) rfl rfl))).trans ?_
  refine (seq_next (let_of (d2_of (d2_of rfl rfl (vMod_pos y (by decide))) rfl rfl))).trans ?_
  refine (seq_next (let_of (d := .list ((rowsOf o (x.fmod 7 - 3) (y.fmod 7 - 3) x y).map encC)) rfl)).trans ?_
  exact seq_ret (ret_of (d2_of rfl rfl (item_list hg (by show 12 ≤ listLine; decide))))
theorem F_codeOk {c : List I} (hc : c.length ≤ listLine) : F_law_code [.val (encC c)] = some (encC (c.map (jmp (c.length : Int)))) := by
  unfold F_law_code
  refine run_ret rfl ?_
  show D_law_code [.val (encC c), .no] = _
  unfold D_law_code
  have hvl : vLen (encC c) = some (.int (c.length : Int)) := by simp [vLen, encC, hc]
  rw [seq_next (let_of (d1_of rfl hvl))]
  refine seq_ret (ret_of (comp_of (xs := (c.map (jmp (c.length : Int))).map encI) ?_))
  show (if (c.map encI).length ≤ listLine then comp _ _ _ [.no, .no, .val (.int (c.length : Int))] (c.map encI) else none) = _
  rw [if_pos (by simpa using hc)]
  exact comp_code (by omega) c
noncomputable def tabOf (k : Nat) (f s n : Int) : List Row := ([(("f", f, s), f.fmod (n + 1)), (("main", 0, s), s.fmod (n + 1))] : List Row).take k
theorem F_tableOk {k : Nat} {f s n : Int} (hk : k ≤ 2) (hn : 0 ≤ n) : F_law_table [.val (.int (k : Int)), .val (.int f), .val (.int s), .val (.int n)] = some (encT (tabOf k f s n)) := by
  unfold F_law_table
  refine run_ret rfl ?_
  show D_law_table [.val (.int (k : Int)), .val (.int f), .val (.int s), .val (.int n), .no] = _
  unfold D_law_table
  have r1 : (dLst [(dTup [(dLit (.str "f")), (dName 1), (dName 2), (d2 vMod (dName 1) (d2 vAdd (dName 3) (dLit (.int 1))))]), (dTup [(dLit (.str "main")), (dLit (.int 0)), (dName 2), (d2 vMod (dName 2) (d2 vAdd (dName 3) (dLit (.int 1))))])]) [.val (.int (k : Int)), .val (.int f), .val (.int s), .val (.int n), .no] = some (encT [(("f", f, s), f.fmod (n + 1)), (("main", 0, s), s.fmod (n + 1))]) := by
    refine lst_of (all_cons (tup_of (all_cons rfl (all_cons rfl (all_cons rfl (all_cons (d2_of rfl (d2_of rfl rfl rfl) (vMod_pos f (by omega))) all_nil))))) (all_cons (tup_of (all_cons rfl (all_cons rfl (all_cons rfl (all_cons (d2_of rfl (d2_of rfl rfl rfl) (vMod_pos s (by omega))) all_nil))))) all_nil))
  rw [seq_next (let_of r1)]
  refine seq_ret (ret_of (d2_of rfl rfl ?_))
  have hcl : clamp 2 (k : Int) = k := by
    unfold clamp
    rw [if_neg (by omega)]
    split
    · omega
    · simp
  show (if 2 ≤ listLine then some (PyData.list (List.take (clamp 2 (k : Int)) _)) else none) = _
  rw [if_pos (by decide), hcl]
  simp [encT, tabOf, List.map_take]
theorem tab_ok (k : Nat) (f s : Int) (n : Nat) : TbOk n (tabOf k f s n) ∧ (tabOf k f s n).length ≤ 2 ∧ ∀ r ∈ tabOf k f s (n : Int), RowOk r := by
  have f1 := fm_ok f (n := (n : Int) + 1) (by omega)
  have f2 := fm_ok s (n := (n : Int) + 1) (by omega)
  refine ⟨fun r hr => ?_, by simp [tabOf]; omega, fun r hr => ?_⟩
  · have := List.mem_of_mem_take hr
    simp only [List.mem_cons, List.not_mem_nil, or_false] at this
    rcases this with rfl | rfl
    · exact ⟨f1.1, by simp only; omega⟩
    · exact ⟨f2.1, by simp only; omega⟩
  · have := List.mem_of_mem_take hr
    simp only [List.mem_cons, List.not_mem_nil, or_false] at this
    rcases this with rfl | rfl
    · show PyData.strOk "f" = true; decide +kernel
    · show PyData.strOk "main" = true; decide +kernel
theorem F_rightOk {k a b : Int} (h0 : 0 ≤ k) (h1 : k < 11) (ha : bt a ≤ 2) (hb : bt b ≤ 2) : F_law_operator_right [.val (.int k), .val (.int a), .val (.int b)] = some (.bool true) := by
  obtain ⟨o, ho, hs⟩ := ops_at h0 h1
  unfold F_law_operator_right
  refine run_ret rfl ?_
  show D_law_operator_right [.val (.int k), .val (.int a), .val (.int b), .no, .no] = _
  unfold D_law_operator_right
  rw [seq_next (σ' := [.val (.int k), .val (.int a), .val (.int b), .val .none, .no]) rfl, seq_next (σ' := [.val (.int k), .val (.int a), .val (.int b), .val .none, .val (.bool false)]) rfl]
  have hargs : aAll [(aVal (d2 vItem (dLit signsD) (dName 0))), (aVal (dName 1)), (aVal (dName 2))] [.val (.int k), .val (.int a), .val (.int b), .val .none, .val (.bool false)] = some [.val (.str o.sign), .val (.int a), .val (.int b)] := aall_cons (d2_of rfl rfl hs) (aall_cons rfl (aall_cons rfl rfl))
  have hbr : bArgs raiseP [(aVal (d2 vItem (dLit signsD) (dName 0))), (aVal (dName 1)), (aVal (dName 2))] [.val (.int k), .val (.int a), .val (.int b), .val .none, .val (.bool false)] = some (noVal o b) := by
    unfold bArgs; rw [hargs]; simp only [raise_noVal]
  have hno : ∀ s3 s4, (bOf (dCall F_law_no_value [(aVal (d2 vItem (dLit opsD) (dName 0))), (aVal (dName 2))])) [.val (.int k), .val (.int a), .val (.int b), s3, s4] = some (noVal o b) := by
    intro s3 s4
    unfold bOf b1
    rw [call_of (ds := [.val (.str (Op.bin o).enc), .val (.int b)]) (aall_cons (d2_of rfl rfl ho) (aall_cons rfl rfl)) (F_noval o b)]
    rfl
  cases hv : noVal o b with
  | true =>
    rw [seq_next (σ' := [.val (.int k), .val (.int a), .val (.int b), .val .none, .val (.bool true)]) (by unfold sTry; rw [hbr, hv]; rfl)]
    refine seq_ret ?_
    rw [if_t (by rw [hno, hv])]
    rfl
  | false =>
    have hcan : Can o a b := ⟨hv, fun _ => ⟨fac_bt (Nat.le_trans ha (by decide)), fac_bt (Nat.le_trans hb (by decide))⟩⟩
    rw [seq_next (σ' := [.val (.int k), .val (.int a), .val (.int b), .val (.int (o.val a b)), .val (.bool false)]) (by
      unfold sTry; rw [hbr, hv]
      exact (seq_next (let_of (call_of hargs (F_apply hcan)))).trans rfl)]
    rw [seq_next (σ' := [.val (.int k), .val (.int a), .val (.int b), .val (.int (o.val a b)), .val (.bool false)]) (by rw [if_f (by rw [hno, hv])]; rfl)]
    rw [seq_next (σ' := [.val (.int k), .val (.int a), .val (.int b), .val (.int (o.val a b)), .val (.bool false)]) (by rw [if_f rfl]; rfl)]
    refine seq_ret (ret_of ?_)
    have hval : dCall F_law_value [(aVal (d2 vItem (dLit opsD) (dName 0))), (aVal (dName 1)), (aVal (dName 2))] [.val (.int k), .val (.int a), .val (.int b), .val (.int (o.val a b)), .val (.bool false)] = some (.int (o.val a b)) :=
      call_of (ds := [.val (.str (Op.bin o).enc), .val (.int a), .val (.int b)]) (aall_cons (d2_of rfl rfl ho) (aall_cons rfl (aall_cons rfl rfl))) (F_value hcan)
    unfold bVal
    rw [b2_of rfl hval (vEq_int _ _)]
    simp
end Mine
end
section
set_option maxRecDepth 10000
namespace Mine
open PySem
open PySem.SeqAt (shaped)
noncomputable def enc3 (t : Int × Int × Int) : PyData := .tuple [.int t.1, .int t.2.1, .int t.2.2]
noncomputable def bodyRaw : DS := (sSeq [sIf (b2 vLt (dName 4) (dName 1)) (sSeq [sUnpack [5, 6, 7] (d2 vItem (dName 2) (dName 4)),
            sLet 3 (d2 vAdd (dName 3) (dCall F_law_chunk [(aVal (d2 vMod (dName 5) (dLit (.int 12)))), (aVal (dName 6)), (aVal (dName 7))]))]) (sSeq [])])
theorem addC {a b : List I} (h : a.length + b.length ≤ listLine) : vAdd (encC a) (encC b) = some (encC (a ++ b)) := by
  simp only [vAdd, encC, List.length_map]
  rw [if_pos h]; simp
theorem raw_loop {s0 : Slot} {size : Int} {RS : List (Int × Int × Int)} {rest : List Slot} (hR : RS.length = 6) (hb : ∀ r ∈ RS, bt r.2.1 ≤ 2 ^ 20 ∧ bt r.2.2 ≤ 2 ^ 20) : ∀ (k i : Nat) (raw : List I) (s4 s5 s6 s7 : Slot), i + k = 6 → raw.length ≤ 3 * i → ws raw ≤ i * (2 ^ 21 + 12) →
    ∃ raw' t4 t5 t6 t7, loop (toOne 4) bodyRaw ((iota (i : Int) k).map .int) (s0 :: .val (.int size) :: .val (.tuple (RS.map enc3)) :: .val (encC raw) :: s4 :: s5 :: s6 :: s7 :: rest) = some (.next (s0 :: .val (.int size) :: .val (.tuple (RS.map enc3)) :: .val (encC raw') :: t4 :: t5 :: t6 :: t7 :: rest)) ∧ raw'.length ≤ 18 ∧ ws raw' ≤ 6 * (2 ^ 21 + 12)
  | 0, i, raw, s4, s5, s6, s7, hi, h1, h2 => ⟨raw, s4, s5, s6, s7, rfl, by omega, by
      have : i = 6 := by omega
      subst this; exact h2⟩
  | k + 1, i, raw, s4, s5, s6, s7, hi, h1, h2 => by
    have hio : (iota (i : Int) (k + 1)).map PyData.int = .int (i : Int) :: (iota ((i + 1 : Nat) : Int) k).map .int := by
      simp only [iota, List.range_succ_eq_map, List.map_cons, List.map_map]
      simp [Function.comp_def]
      intro a _; omega
    rw [hio]
    by_cases hs : (i : Int) < size
    · obtain ⟨r, hr⟩ : ∃ r, RS[i]? = some r := ⟨_, List.getElem?_eq_getElem (by omega)⟩
      have hbr := hb r (List.mem_of_getElem? hr)
      have f := fm_ok r.1 (n := 12) (by decide)
      obtain ⟨ch, hch, hl, hw⟩ := F_chunk (k := r.1.fmod 12) (x := r.2.1) (y := r.2.2) f.1 f.2 (Nat.le_trans hbr.2 (by decide))
      obtain ⟨raw', t4, t5, t6, t7, e, e1, e2⟩ := raw_loop (s0 := s0) (size := size) (rest := rest) hR hb k (i + 1) (raw ++ ch) (.val (.int (i : Int))) (.val (.int r.1)) (.val (.int r.2.1)) (.val (.int r.2.2)) (by omega) (by simp; omega) (by rw [ws_append]; omega)
      refine ⟨raw', t4, t5, t6, t7, ?_, e1, e2⟩
      refine (loop_next (σ₁ := s0 :: .val (.int size) :: .val (.tuple (RS.map enc3)) :: .val (encC raw) :: .val (.int (i : Int)) :: s5 :: s6 :: s7 :: rest) (σ₂ := s0 :: .val (.int size) :: .val (.tuple (RS.map enc3)) :: .val (encC (raw ++ ch)) :: .val (.int (i : Int)) :: .val (.int r.1) :: .val (.int r.2.1) :: .val (.int r.2.2) :: rest) rfl ?_).trans e
      unfold bodyRaw
      refine (seq_next (σ' := s0 :: .val (.int size) :: .val (.tuple (RS.map enc3)) :: .val (encC (raw ++ ch)) :: .val (.int (i : Int)) :: .val (.int r.1) :: .val (.int r.2.1) :: .val (.int r.2.2) :: rest) ?_).trans rfl
      rw [if_t (by show some (decide ((i : Int) < size)) = _; simp [hs])]
      have hit : vItem (.tuple (RS.map enc3)) (.int (i : Int)) = some (enc3 r) := by
        simp only [vItem, List.length_map, hR, idx_nat (show i < 6 by omega) (show 6 ≤ listLine by decide), List.getElem?_map, hr, Option.map_some]
      rw [seq_next (unpack_of (σ' := s0 :: .val (.int size) :: .val (.tuple (RS.map enc3)) :: .val (encC raw) :: .val (.int (i : Int)) :: .val (.int r.1) :: .val (.int r.2.1) :: .val (.int r.2.2) :: rest) (d2_of rfl rfl hit) rfl)]
      refine (seq_next (let_of (d2_of (x := encC raw) rfl (call_of (ds := [.val (.int (r.1.fmod 12)), .val (.int r.2.1), .val (.int r.2.2)]) (aall_cons (d2_of rfl rfl (vMod_pos r.1 (by decide))) (aall_cons rfl (aall_cons rfl rfl))) hch) (addC ?_)))).trans rfl
      unfold listLine; omega
    · obtain ⟨raw', t4, t5, t6, t7, e, e1, e2⟩ := raw_loop (s0 := s0) (size := size) (rest := rest) hR hb k (i + 1) raw (.val (.int (i : Int))) s5 s6 s7 (by omega) (by omega) (Nat.le_trans h2 (Nat.mul_le_mul_right _ (by omega)))
      refine ⟨raw', t4, t5, t6, t7, ?_, e1, e2⟩
      refine (loop_next (σ₁ := s0 :: .val (.int size) :: .val (.tuple (RS.map enc3)) :: .val (encC raw) :: .val (.int (i : Int)) :: s5 :: s6 :: s7 :: rest) (σ₂ := s0 :: .val (.int size) :: .val (.tuple (RS.map enc3)) :: .val (encC raw) :: .val (.int (i : Int)) :: s5 :: s6 :: s7 :: rest) rfl ?_).trans e
      unfold bodyRaw
      refine (seq_next (σ' := s0 :: .val (.int size) :: .val (.tuple (RS.map enc3)) :: .val (encC raw) :: .val (.int (i : Int)) :: s5 :: s6 :: s7 :: rest) ?_).trans rfl
      rw [if_f (by show some (decide ((i : Int) < size)) = _; simp [hs])]; rfl
/-! the checks -/
theorem FR_pt {t : Nat → Bool} {i : Nat} {l l' : List I} (h : FR t i l l') : ∀ (j : Nat) (x y : I), l[j]? = some x → l'[j]? = some y → y = x ∨ y = (.nop, 0) ∨ y.1 = .push := by
  induction h with
  | nil i => intro j x y h1; simp at h1
  | keep hn hf ih =>
    intro j x y h1 h2
    cases j with
    | zero => simp at h1 h2; left; rw [← h1, ← h2]
    | succ j => exact ih j x y (by simpa using h1) (by simpa using h2)
  | @one i a z yy r r' ht hu hf ih =>
    intro j x y h1 h2
    cases j with
    | zero => simp at h2; right; left; exact h2.symm
    | succ j =>
      cases j with
      | zero =>
        rcases ih 0 (.push, z) y rfl (by simpa using h2) with h | h | h
        · right; right; rw [h]
        · exact .inr (.inl h)
        · exact .inr (.inr h)
      | succ j => exact ih (j + 1) x y (by simpa using h1) (by simpa using h2)
  | @two i a b c o r r' h1 h2 h3 hf ih =>
    intro j x y h1 h2
    cases j with
    | zero => simp at h2; right; left; exact h2.symm
    | succ j =>
      cases j with
      | zero => simp at h2; right; left; exact h2.symm
      | succ j =>
        cases j with
        | zero =>
          rcases ih 0 (.push, o.val a b) y rfl (by simpa using h2) with h | h | h
          · right; right; rw [h]
          · exact .inr (.inl h)
          · exact .inr (.inr h)
        | succ j => exact ih (j + 1) x y (by simpa using h1) (by simpa using h2)
noncomputable def bodyChk : DS := (sSeq [sIf (bAnd [(b2 vNe (d2 vItem (dName 17) (dName 4)) (d2 vItem (dName 10) (dName 4))), (b2 vNe (d2 vItem (dName 17) (dName 4)) (dTup [(dLit (.str "NOP")), (dLit (.int 0))])), (b2 vNe (d2 vItem (d2 vItem (dName 17) (dName 4)) (dLit (.int 0))) (dLit (.str "PUSH")))]) (sSeq [sRet (dLit (.bool false))]) (sSeq [])])
theorem chk_loop {s0 s1 s2 s3 s5 s6 s7 s8 s9 s11 s12 s13 s14 s15 s16 : Slot} {rest : List Slot} {c f : List I} (hl : f.length = c.length) (hn : c.length ≤ listLine) (hp : ∀ (j : Nat) (x y : I), c[j]? = some x → f[j]? = some y → y = x ∨ y = (.nop, 0) ∨ y.1 = .push) : ∀ (k i : Nat) (s4 : Slot), i + k = c.length →
    ∃ t4, loop (toOne 4) bodyChk ((iota (i : Int) k).map .int) (s0 :: s1 :: s2 :: s3 :: s4 :: s5 :: s6 :: s7 :: s8 :: s9 :: .val (encC c) :: s11 :: s12 :: s13 :: s14 :: s15 :: s16 :: .val (encC f) :: rest) = some (.next (s0 :: s1 :: s2 :: s3 :: t4 :: s5 :: s6 :: s7 :: s8 :: s9 :: .val (encC c) :: s11 :: s12 :: s13 :: s14 :: s15 :: s16 :: .val (encC f) :: rest))
  | 0, i, s4, _ => ⟨s4, rfl⟩
  | k + 1, i, s4, hi => by
    have hio : (iota (i : Int) (k + 1)).map PyData.int = .int (i : Int) :: (iota ((i + 1 : Nat) : Int) k).map .int := by
      simp only [iota, List.range_succ_eq_map, List.map_cons, List.map_map]
      simp [Function.comp_def]
      intro a _; omega
    obtain ⟨t4, e⟩ := chk_loop (s0 := s0) (s1 := s1) (s2 := s2) (s3 := s3) (s5 := s5) (s6 := s6) (s7 := s7) (s8 := s8) (s9 := s9) (s11 := s11) (s12 := s12) (s13 := s13) (s14 := s14) (s15 := s15) (s16 := s16) (rest := rest) hl hn hp k (i + 1) (.val (.int (i : Int))) (by omega)
    refine ⟨t4, ?_⟩
    rw [hio]
    obtain ⟨x, hx⟩ : ∃ x, c[i]? = some x := ⟨_, List.getElem?_eq_getElem (by omega)⟩
    obtain ⟨y, hy⟩ : ∃ y, f[i]? = some y := ⟨_, List.getElem?_eq_getElem (by omega)⟩
    refine (loop_next (σ₁ := s0 :: s1 :: s2 :: s3 :: .val (.int (i : Int)) :: s5 :: s6 :: s7 :: s8 :: s9 :: .val (encC c) :: s11 :: s12 :: s13 :: s14 :: s15 :: s16 :: .val (encC f) :: rest) (σ₂ := s0 :: s1 :: s2 :: s3 :: .val (.int (i : Int)) :: s5 :: s6 :: s7 :: s8 :: s9 :: .val (encC c) :: s11 :: s12 :: s13 :: s14 :: s15 :: s16 :: .val (encC f) :: rest) rfl ?_).trans e
    unfold bodyChk
    refine (seq_next (σ' := s0 :: s1 :: s2 :: s3 :: .val (.int (i : Int)) :: s5 :: s6 :: s7 :: s8 :: s9 :: .val (encC c) :: s11 :: s12 :: s13 :: s14 :: s15 :: s16 :: .val (encC f) :: rest) ?_).trans rfl
    have gy : (d2 vItem (dName 17) (dName 4)) (s0 :: s1 :: s2 :: s3 :: .val (.int (i : Int)) :: s5 :: s6 :: s7 :: s8 :: s9 :: .val (encC c) :: s11 :: s12 :: s13 :: s14 :: s15 :: s16 :: .val (encC f) :: rest) = some (encI y) := d2_of rfl rfl (item_get hy (by omega))
    have gx : (d2 vItem (dName 10) (dName 4)) (s0 :: s1 :: s2 :: s3 :: .val (.int (i : Int)) :: s5 :: s6 :: s7 :: s8 :: s9 :: .val (encC c) :: s11 :: s12 :: s13 :: s14 :: s15 :: s16 :: .val (encC f) :: rest) = some (encI x) := d2_of rfl rfl (item_get hx hn)
    have g0 : vItem (encI y) (.int 0) = some (.str y.1.enc) := by simp [encI, vItem, idxOf, listLine]
    have cc : (bAnd [(b2 vNe (d2 vItem (dName 17) (dName 4)) (d2 vItem (dName 10) (dName 4))), (b2 vNe (d2 vItem (dName 17) (dName 4)) (dTup [(dLit (.str "NOP")), (dLit (.int 0))])), (b2 vNe (d2 vItem (d2 vItem (dName 17) (dName 4)) (dLit (.int 0))) (dLit (.str "PUSH")))]) (s0 :: s1 :: s2 :: s3 :: .val (.int (i : Int)) :: s5 :: s6 :: s7 :: s8 :: s9 :: .val (encC c) :: s11 :: s12 :: s13 :: s14 :: s15 :: s16 :: .val (encC f) :: rest) = some false := by
      have a1 : (b2 vNe (d2 vItem (dName 17) (dName 4)) (d2 vItem (dName 10) (dName 4))) (s0 :: s1 :: s2 :: s3 :: .val (.int (i : Int)) :: s5 :: s6 :: s7 :: s8 :: s9 :: .val (encC c) :: s11 :: s12 :: s13 :: s14 :: s15 :: s16 :: .val (encC f) :: rest) = some (!decide (y = x)) := b2_of gy gx (vNe_encI y x)
      have a2 : (b2 vNe (d2 vItem (dName 17) (dName 4)) (dTup [(dLit (.str "NOP")), (dLit (.int 0))])) (s0 :: s1 :: s2 :: s3 :: .val (.int (i : Int)) :: s5 :: s6 :: s7 :: s8 :: s9 :: .val (encC c) :: s11 :: s12 :: s13 :: s14 :: s15 :: s16 :: .val (encC f) :: rest) = some (!decide (y = (.nop, 0))) := b2_of gy rfl (vNe_encI y (.nop, 0))
      have a3 : (b2 vNe (d2 vItem (d2 vItem (dName 17) (dName 4)) (dLit (.int 0))) (dLit (.str "PUSH"))) (s0 :: s1 :: s2 :: s3 :: .val (.int (i : Int)) :: s5 :: s6 :: s7 :: s8 :: s9 :: .val (encC c) :: s11 :: s12 :: s13 :: s14 :: s15 :: s16 :: .val (encC f) :: rest) = some (!decide (y.1 = .push)) := b2_of (d2_of gy rfl g0) rfl (vNe_op y.1 .push)
      simp only [bAnd, a1, a2, a3]
      rcases hp i x y hx hy with h | h | h
      · rw [decide_eq_true h]; rfl
      · rw [decide_eq_true h]; cases decide (y = x) <;> rfl
      · rw [decide_eq_true h]; cases decide (y = x) <;> cases decide (y = (.nop, 0)) <;> rfl
    rw [if_f cc]; rfl
noncomputable def bodyTy : DS := (sSeq [sIf (bNot (bType "int" (dName 22))) (sSeq [sRet (dLit (.bool false))]) (sSeq [])])
theorem ty_loop : ∀ (l : List I) (σ : St), σ.length = 23 → ∃ σ', loop (unpackTo [21, 22]) bodyTy (l.map encI) σ = some (.next σ') ∧ σ'.length = 23 ∧ ∀ j, j < 21 → σ'[j]? = σ[j]?
  | [], σ, h => ⟨σ, rfl, h, fun _ _ => rfl⟩
  | x :: l, σ, h => by
    obtain ⟨σ', e, e1, e2⟩ := ty_loop l ((σ.set 21 (.val (.str x.1.enc))).set 22 (.val (.int x.2))) (by simpa using h)
    refine ⟨σ', ?_, e1, fun j hj => (e2 j hj).trans ?_⟩
    · have hb : bodyTy ((σ.set 21 (.val (.str x.1.enc))).set 22 (.val (.int x.2))) = some (.next ((σ.set 21 (.val (.str x.1.enc))).set 22 (.val (.int x.2)))) := by
        have hd : dName 22 ((σ.set 21 (.val (.str x.1.enc))).set 22 (.val (.int x.2))) = some (.int x.2) := by
          unfold dName
          rw [List.getElem?_set_self (by simp; omega)]
        unfold bodyTy
        refine (seq_next (σ' := (σ.set 21 (.val (.str x.1.enc))).set 22 (.val (.int x.2))) ?_).trans rfl
        rw [if_f (by unfold bNot bType; rw [hd]; rfl)]; rfl
      exact (loop_next (σ₁ := (σ.set 21 (.val (.str x.1.enc))).set 22 (.val (.int x.2))) rfl hb).trans e
    · rw [List.getElem?_set_ne (by omega), List.getElem?_set_ne (by omega)]
/-! the targets, listed twice -/
theorem comp_in (M : List Int) : ∀ l : List Int, comp (toOne 0) (b2 vIn (dName 0) (dName 1)) (dName 0) [.no, .val (iL M)] (l.map .int) = some ((l.filter fun x => decide (x ∈ M)).map .int)
  | [] => rfl
  | x :: l => by
    have ih := comp_in M l
    have h1 : toOne 0 (.int x) [.no, .val (iL M)] = some [.val (.int x), .val (iL M)] := rfl
    have h2 : (b2 vIn (dName 0) (dName 1)) [.val (.int x), .val (iL M)] = some (decide (x ∈ M)) := vIn_int x M
    have h3 : (dName 0) [.val (.int x), .val (iL M)] = some (.int x) := rfl
    rw [List.map_cons, comp, h1]
    simp only [h2, h3, ih]
    by_cases h : x ∈ M <;> simp [h]
theorem tg_list {c : List I} {tb : List Row} {a : Int} {n : Nat} (h : ∀ x ∈ tg c tb, a ≤ x ∧ x < a + n) : tgL c tb = (iota a n).filter fun x => decide (x ∈ tg c tb) := by
  refine strict_ext (tgL_ok c tb).1 ((iota_strict a n).filter _) fun x => ?_
  rw [(tgL_ok c tb).2, List.mem_filter, mem_iota]
  simp only [decide_eq_true_eq]
  exact ⟨fun hx => ⟨h x hx, hx⟩, fun hx => hx.2⟩
end Mine
end
section
set_option maxRecDepth 10000
namespace Mine
open PySem
open PySem.SeqAt (shaped)
theorem range2_of {a b : DE} {σ : St} {i k : Int} (ha : a σ = some (.int i)) (hb : b σ = some (.int k)) (h : (-(2 ^ 20) < i ∧ i < 2 ^ 20) ∧ -(2 ^ 20) < k ∧ k < 2 ^ 20) : range2 a b σ = some ((iota i (k - i).toNat).map .int) := by
  unfold range2
  rw [ha, hb]
  simp only
  rw [if_pos h]
theorem law7 (S : List Int) (hS : S.length ≤ 63) (hb : ∀ x ∈ S, bt x ≤ 2 ^ 20) : F_law [.val (iL S)] = some (.bool true) := by
  have hSl : S.length ≤ listLine := by unfold listLine; omega
  have hvl : vLen (iL S) = some (.int (S.length : Int)) := by simp [vLen, iL, hSl]
  unfold F_law
  refine run_ret rfl ?_
  show D_law [.val (iL S), .no, .no, .no, .no, .no, .no, .no, .no, .no, .no, .no, .no, .no, .no, .no, .no, .no, .no, .no, .no, .no, .no] = _
  unfold D_law
  have c0 : (b2 vLt (d1 vLen (dName 0)) (dLit (.int 24))) [.val (iL S), .no, .no, .no, .no, .no, .no, .no, .no, .no, .no, .no, .no, .no, .no, .no, .no, .no, .no, .no, .no, .no, .no] = some (decide ((S.length : Int) < 24)) := b2_of (d1_of rfl hvl) rfl rfl
  by_cases h24 : (S.length : Int) < 24
  · refine seq_ret ?_
    rw [if_t (by rw [c0, decide_eq_true h24])]
    rfl
  rw [pass_if (by rw [c0, decide_eq_false h24])]
  have it : ∀ k : Nat, k < 24 → vItem (iL S) (.int (k : Int)) = some (.int (S.getD k 0)) := by
    intro k hk
    have hkS : k < S.length := by omega
    simp only [vItem, iL, List.length_map, idx_nat hkS hSl, List.getElem?_map, List.getElem?_eq_getElem hkS, Option.map_some, List.getD_eq_getElem?_getD, Option.getD_some]
  have hg : ∀ k : Nat, bt (S.getD k 0) ≤ 2 ^ 20 := by
    intro k
    rw [List.getD_eq_getElem?_getD]
    cases e : S[k]? with
    | none => show bt 0 ≤ _; decide
    | some v => exact hb v (List.mem_of_getElem? e)
  generalize hgg : (fun k => S.getD k 0) = g at *
  have hgk : ∀ k, S.getD k 0 = g k := fun k => by rw [← hgg]
  simp only [hgk] at it hg
  have fs := fm_ok (g 0) (n := 7) (by decide)
  rw [seq_next (let_of (d2_of (d2_of rfl rfl (it 0 (by decide))) rfl (vMod_pos (g 0) (by decide))))]
  let RS : List (Int × Int × Int) := [(g 4, g 5, g 6), (g 7, g 8, g 9), (g 10, g 11, g 12), (g 13, g 14, g 15), (g 16, g 17, g 18), (g 19, g 20, g 21)]
  have hrows : ∀ (a b c : Nat) (x y z : DE) (σ : St), x σ = some (.int (g a)) → y σ = some (.int (g b)) → z σ = some (.int (g c)) → (dTup [x, y, z]) σ = some (enc3 (g a, g b, g c)) := fun a b c x y z σ h1 h2 h3 => tup_of (all_cons h1 (all_cons h2 (all_cons h3 all_nil)))
  refine (seq_next (let_of (d := .tuple (RS.map enc3)) (tup_of (all_cons (hrows 4 5 6 _ _ _ _ (d2_of rfl rfl (it 4 (by decide))) (d2_of rfl rfl (it 5 (by decide))) (d2_of rfl rfl (it 6 (by decide)))) (all_cons (hrows 7 8 9 _ _ _ _ (d2_of rfl rfl (it 7 (by decide))) (d2_of rfl rfl (it 8 (by decide))) (d2_of rfl rfl (it 9 (by decide))))
    (all_cons (hrows 10 11 12 _ _ _ _ (d2_of rfl rfl (it 10 (by decide))) (d2_of rfl rfl (it 11 (by decide))) (d2_of rfl rfl (it 12 (by decide)))) (all_cons (hrows 13 14 15 _ _ _ _ (d2_of rfl rfl (it 13 (by decide))) (d2_of rfl rfl (it 14 (by decide))) (d2_of rfl rfl (it 15 (by decide))))
    (all_cons (hrows 16 17 18 _ _ _ _ (d2_of rfl rfl (it 16 (by decide))) (d2_of rfl rfl (it 17 (by decide))) (d2_of rfl rfl (it 18 (by decide)))) (all_cons (hrows 19 20 21 _ _ _ _ (d2_of rfl rfl (it 19 (by decide))) (d2_of rfl rfl (it 20 (by decide))) (d2_of rfl rfl (it 21 (by decide)))) all_nil))))))))).trans ?_
  have hRS : ∀ r ∈ RS, bt r.2.1 ≤ 2 ^ 20 ∧ bt r.2.2 ≤ 2 ^ 20 := by
    intro r hr
    simp only [RS, List.mem_cons, List.not_mem_nil, or_false] at hr
    rcases hr with rfl | rfl | rfl | rfl | rfl | rfl <;> exact ⟨hg _, hg _⟩
  have hRl : RS.length = 6 := rfl
  generalize RS = RS' at *
  refine (seq_next (σ' := [.val (iL S), .val (.int ((g 0).fmod 7)), .val (.tuple (RS'.map enc3)), .val (encC []), .no, .no, .no, .no, .no, .no, .no, .no, .no, .no, .no, .no, .no, .no, .no, .no, .no, .no, .no]) rfl).trans ?_
  obtain ⟨raw, t4, t5, t6, t7, e, hrl, hrw⟩ := raw_loop (s0 := .val (iL S)) (size := (g 0).fmod 7) (rest := [.no, .no, .no, .no, .no, .no, .no, .no, .no, .no, .no, .no, .no, .no, .no]) hRl hRS 6 0 [] .no .no .no .no rfl (by simp) (by simp [ws])
  refine (seq_next (for_of (xs := (iota ((0 : Nat) : Int) 6).map .int) (rangeTo_of (k := 6) rfl (by omega)) e)).trans ?_
  have hrawl : raw.length ≤ listLine := by unfold listLine; omega
  have hvr : vLen (encC raw) = some (.int (raw.length : Int)) := by simp [vLen, encC, hrawl]
  refine (seq_next (let_of (d1_of rfl hvr))).trans ?_
  refine (seq_next (let_of (call_of (ds := [.val (encC raw)]) rfl (F_codeOk hrawl)))).trans ?_
  refine (seq_next (let_of (call_of (ds := [.val (encC raw)]) rfl (F_codeOk hrawl)))).trans ?_
  have hcl : (raw.map (jmp (raw.length : Int))).length = raw.length := by simp
  have hcw : ws (raw.map (jmp (raw.length : Int))) ≤ 2 ^ 25 := Nat.le_trans (ws_jmp (Nat.le_trans hrl (by decide)) raw) (by omega)
  have hctg : ∀ x ∈ raw.map (jmp (raw.length : Int)), x.1.isJ = true → -1 ≤ x.2 ∧ x.2 < (raw.length : Int) + 2 := fun x hx hj => jmp_tg hx hj
  generalize hcc : raw.map (jmp (raw.length : Int)) = c at *
  have f3 := fm_ok (g 1) (n := 3) (by decide)
  obtain ⟨kk, hkk⟩ := Int.eq_ofNat_of_zero_le f3.1
  have hk2 : kk ≤ 2 := by omega
  have hn0 : (0 : Int) ≤ (raw.length : Int) := by omega
  have htab : ∀ (σ : St), dName 0 σ = some (iL S) → dName 8 σ = some (.int (raw.length : Int)) → dCall F_law_table [(aVal (d2 vMod (d2 vItem (dName 0) (dLit (.int 1))) (dLit (.int 3)))), (aVal (d2 vItem (dName 0) (dLit (.int 2)))), (aVal (d2 vItem (dName 0) (dLit (.int 3)))), (aVal (dName 8))] σ = some (encT (tabOf kk (g 2) (g 3) (raw.length : Int))) := by
    intro σ h0 h8
    refine call_of (ds := [.val (.int (kk : Int)), .val (.int (g 2)), .val (.int (g 3)), .val (.int (raw.length : Int))]) (aall_cons ?_ (aall_cons (d2_of h0 rfl (it 2 (by decide))) (aall_cons (d2_of h0 rfl (it 3 (by decide))) (aall_cons h8 rfl)))) (F_tableOk hk2 hn0)
    rw [← hkk]
    exact d2_of (d2_of h0 rfl (it 1 (by decide))) rfl (vMod_pos (g 1) (by decide))
  refine (seq_next (let_of (htab _ rfl rfl))).trans ?_
  refine (seq_next (let_of (htab _ rfl rfl))).trans ?_
  obtain ⟨htok, htl, hrow⟩ := tab_ok kk (g 2) (g 3) raw.length
  generalize htb : tabOf kk (g 2) (g 3) (raw.length : Int) = tb at *
  show sSeq _ [.val (iL S), .val (.int ((g 0).fmod 7)), .val (.tuple (RS'.map enc3)), .val (encC raw), t4, t5, t6, t7, .val (.int (raw.length : Int)), .val (encC c), .val (encC c), .val (encT tb), .val (encT tb), .no, .no, .no, .no, .no, .no, .no, .no, .no, .no] = _
  rw [← hcl] at htok hctg hrl
  rw [← hcl]
  have hcL : c.length ≤ listLine := by unfold listLine; omega
  have htL : tb.length ≤ listLine := by unfold listLine; omega
  have htgl : (tg c tb).length ≤ c.length + 2 := by
    unfold tg
    have := List.length_filter_le (fun x : I => x.1.isJ) c
    simp only [List.length_append, List.length_map]
    omega
  have G : Good c tb := ⟨by omega, htL, htok, by omega, hcw⟩
  have htgr : ∀ x ∈ tg c tb, -1 ≤ x ∧ x < -1 + ((c.length + 3 : Nat) : Int) := by
    intro x hx
    unfold tg at hx
    rcases List.mem_append.mp hx with h | h
    · obtain ⟨y, hy, rfl⟩ := List.mem_map.mp h
      rw [List.mem_filter] at hy
      have := hctg y hy.1 (by simpa using hy.2)
      omega
    · obtain ⟨r, hr, rfl⟩ := List.mem_map.mp h
      have := htok r hr
      omega
  -- marks
  have lA : ∀ (σ : St), dName 10 σ = some (encC c) → lComp 2 [] (unpackTo [0, 1]) (items (dName 10)) (b2 vIn (dName 0) (dTup [(dLit (.str "JUMP")), (dLit (.str "JZ"))])) (dName 1) σ = some (((c.filter fun x => x.1.isJ).map (·.2)).map .int) := by
    intro σ h10
    unfold lComp items
    rw [h10]
    show (if (c.map encI).length ≤ listLine then comp _ _ _ [.no, .no] (c.map encI) else none) = _
    rw [if_pos (by simpa using hcL), comp_jumps]
  have lB : ∀ (σ : St), dName 12 σ = some (encT tb) → lComp 1 [] (toOne 0) (items (dName 12)) bTrue (d2 vItem (dName 0) (dLit (.int 3))) σ = some ((tb.map (·.2)).map .int) := by
    intro σ h12
    unfold lComp items
    rw [h12]
    show (if (tb.map encR).length ≤ listLine then comp _ _ _ [.no] (tb.map encR) else none) = _
    rw [if_pos (by simpa using htL), comp_rows]
  have hadd : vAdd (.list (((c.filter fun x => x.1.isJ).map (·.2)).map .int)) (.list ((tb.map (·.2)).map .int)) = some (iL (tg c tb)) := by
    have : (tg c tb).length ≤ listLine := by unfold listLine; omega
    simp only [vAdd, List.length_map]
    rw [if_pos (by simpa [tg] using this)]
    simp [iL, tg]
  refine (seq_next (let_of (d2_of (comp_of (lA _ rfl)) (comp_of (lB _ rfl)) hadd))).trans ?_
  have hR : R c tb = ((run (tgs (tg c tb)) 0 c ([], [])).1.reverse.map (rel c.length (run (tgs (tg c tb)) 0 c ([], [])).2), relT (run (tgs (tg c tb)) 0 c ([], [])).2 tb) := rfl
  have hmv : (run (tgs (tg c tb)) 0 c ([], [])).2.length = c.length + 1 := run_len _ _ _ _
  generalize hq : (run (tgs (tg c tb)) 0 c ([], [])).2 = mv at *
  have hshort : F_law_short [.val (encC c), .val (iL (tg c tb))] = some (.tuple [encC (R c tb).1, nL mv]) := by
    rw [F_shortOk (by omega) hcw, hR, hq]
  refine (seq_next (unpack_of (call_of (ds := [.val (encC c), .val (iL (tg c tb))]) rfl hshort) rfl)).trans ?_
  have hml : mv.length ≤ listLine := by rw [hmv]; unfold listLine; omega
  have lC : ∀ (σ : St), dName 12 σ = some (encT tb) → look σ 15 = .val (nL mv) → lComp 4 [15] (unpackTo [0, 1, 2, 3]) (items (dName 12)) bTrue (dTup [(dName 0), (dName 1), (dName 2), (d2 vItem (dName 4) (dName 3))]) σ = some ((R c tb).2.map encR) := by
    intro σ h12 h15
    unfold lComp items
    rw [h12]
    show (if (tb.map encR).length ≤ listLine then comp _ _ _ [.no, .no, .no, .no, look σ 15] (tb.map encR) else none) = _
    rw [if_pos (by simpa using htL), h15, comp_tab hml tb (fun r hr => ⟨(htok r hr).1, by have := (htok r hr).2; omega⟩)]
    rw [hR]
  refine (seq_next (let_of (comp_of (lC _ rfl rfl)))).trans ?_
  show sSeq _ [.val (iL S), .val (.int ((g 0).fmod 7)), .val (.tuple (RS'.map enc3)), .val (encC raw), t4, t5, t6, t7, .val (.int (c.length : Int)), .val (encC c), .val (encC c), .val (encT tb), .val (encT tb), .val (iL (tg c tb)), .val (encC (R c tb).1), .val (nL mv), .val (encT (R c tb).2), .no, .no, .no, .no, .no, .no] = _
  have hneg : ∀ {a b : Bool}, a = true → some (!a) = some false := fun h => by rw [h]; rfl
  -- the targets
  have cT : (b2 vNe (dCall F_jump_targets [(aVal (dName 9)), (aVal (dName 11))]) (dComp (lComp 1 [13] (toOne 0) (range2 (d1 vNeg (dLit (.int 1))) (d2 vAdd (dName 8) (dLit (.int 2)))) (b2 vIn (dName 0) (dName 1)) (dName 0)))) [.val (iL S), .val (.int ((g 0).fmod 7)), .val (.tuple (RS'.map enc3)), .val (encC raw), t4, t5, t6, t7, .val (.int (c.length : Int)), .val (encC c), .val (encC c), .val (encT tb), .val (encT tb), .val (iL (tg c tb)), .val (encC (R c tb).1), .val (nL mv), .val (encT (R c tb).2), .no, .no, .no, .no, .no, .no] = some false := by
    have hr : range2 (d1 vNeg (dLit (.int 1))) (d2 vAdd (dName 8) (dLit (.int 2))) [.val (iL S), .val (.int ((g 0).fmod 7)), .val (.tuple (RS'.map enc3)), .val (encC raw), t4, t5, t6, t7, .val (.int (c.length : Int)), .val (encC c), .val (encC c), .val (encT tb), .val (encT tb), .val (iL (tg c tb)), .val (encC (R c tb).1), .val (nL mv), .val (encT (R c tb).2), .no, .no, .no, .no, .no, .no] = some ((iota (-1) (c.length + 3)).map .int) := by
      refine (range2_of (i := -1) (k := (c.length : Int) + 2) rfl rfl (by omega)).trans ?_
      have e3 : (((c.length : Int) + 2) - (-1)).toNat = c.length + 3 := by omega
      rw [e3]
    have hl : lComp 1 [13] (toOne 0) (range2 (d1 vNeg (dLit (.int 1))) (d2 vAdd (dName 8) (dLit (.int 2)))) (b2 vIn (dName 0) (dName 1)) (dName 0) [.val (iL S), .val (.int ((g 0).fmod 7)), .val (.tuple (RS'.map enc3)), .val (encC raw), t4, t5, t6, t7, .val (.int (c.length : Int)), .val (encC c), .val (encC c), .val (encT tb), .val (encT tb), .val (iL (tg c tb)), .val (encC (R c tb).1), .val (nL mv), .val (encT (R c tb).2), .no, .no, .no, .no, .no, .no] = some ((tgL c tb).map .int) := by
      refine lcomp_of hr ?_ (σ' := [.no, .val (iL (tg c tb))]) rfl ?_
      · rw [List.length_map, iota_len]
        have : listLine = 1048576 := rfl
        omega
      · rw [comp_in, ← tg_list htgr]
    refine (b2_of (call_of (ds := [.val (encC c), .val (encT tb)]) rfl (F_jump hcL htL G.tgt)) (comp_of hl) (vNe_ints (tgL c tb) (tgL c tb))).trans ?_
    simp
  rw [pass_if cT]
  -- one pass
  refine (seq_next (let_of (call_of (ds := [.val (encC c), .val (encT tb)]) rfl (F_foldOk G.len G.tl G.tgt G.w)))).trans ?_
  have hfl : (fold c tb).length = c.length := fold_len c tb
  have hvf : vLen (encC (fold c tb)) = some (.int (c.length : Int)) := by simp [vLen, encC, hfl, hcL]
  rw [pass_if ((b2_of (d1_of rfl hvf) rfl (vNe_int (c.length : Int) (c.length : Int))).trans (by simp))]
  have hrg : ∀ (σ : St), dName 8 σ = some (.int (c.length : Int)) → rangeTo (dName 8) σ = some ((iota ((0 : Nat) : Int) c.length).map .int) := by
    intro σ h8
    unfold rangeTo
    rw [h8]
    simp only
    rw [if_pos (by omega)]
    simp
  obtain ⟨u4, e2⟩ := chk_loop (s0 := .val (iL S)) (s1 := .val (.int ((g 0).fmod 7))) (s2 := .val (.tuple (RS'.map enc3))) (s3 := .val (encC raw)) (s5 := t5) (s6 := t6) (s7 := t7) (s8 := .val (.int (c.length : Int))) (s9 := .val (encC c)) (s11 := .val (encT tb)) (s12 := .val (encT tb)) (s13 := .val (iL (tg c tb))) (s14 := .val (encC (R c tb).1)) (s15 := .val (nL mv)) (s16 := .val (encT (R c tb).2)) (rest := [.no, .no, .no, .no, .no]) hfl hcL (fun j x y h1 h2 => FR_pt (F_is (tgs (tg c tb)) 0 c) j x y h1 h2) c.length 0 t4 (by omega)
  refine (seq_next (for_of (hrg _ rfl) e2)).trans ?_
  -- to the end
  refine (seq_next (let_of (call_of (ds := [.val (encC c), .val (encT tb)]) rfl (F_optOk G)))).trans ?_
  refine (pass_if rfl).trans ?_
  refine (seq_next (unpack_of (d := encP (R c tb)) rfl rfl)).trans ?_
  refine (pass_if rfl).trans ?_
  refine (pass_if ((vNe_encC (R c tb).1 (R c tb).1).trans (by simp))).trans ?_
  obtain ⟨σ', e3, hl3, he3⟩ := ty_loop (R c tb).1 [.val (iL S), .val (.int ((g 0).fmod 7)), .val (.tuple (RS'.map enc3)), .val (encC raw), u4, t5, t6, t7, .val (.int (c.length : Int)), .val (encC c), .val (encC c), .val (encT tb), .val (encT tb), .val (iL (tg c tb)), .val (encC (R c tb).1), .val (nL mv), .val (encT (R c tb).2), .val (encC (fold c tb)), .val (encP (R c tb)), .val (encC (R c tb).1), .val (encT (R c tb).2), .no, .no] rfl
  refine (seq_next (for_of (xs := (R c tb).1.map encI) rfl e3)).trans ?_
  have dn : ∀ j d, j < 21 → dName j [.val (iL S), .val (.int ((g 0).fmod 7)), .val (.tuple (RS'.map enc3)), .val (encC raw), u4, t5, t6, t7, .val (.int (c.length : Int)), .val (encC c), .val (encC c), .val (encT tb), .val (encT tb), .val (iL (tg c tb)), .val (encC (R c tb).1), .val (nL mv), .val (encT (R c tb).2), .val (encC (fold c tb)), .val (encP (R c tb)), .val (encC (R c tb).1), .val (encT (R c tb).2), .no, .no] = some d → dName j σ' = some d := by
    intro j d hj h
    unfold dName at h ⊢
    rw [he3 j hj]
    exact h
  have hrowR : ∀ r ∈ (R c tb).2, RowOk r := by
    intro r hr
    rw [hR] at hr
    obtain ⟨r', hr', rfl⟩ := List.mem_map.mp (show r ∈ tb.map fun r => (r.1, at' mv r.2) from hr)
    exact hrow r' hr'
  rw [pass_if ((b2_of (dn 20 _ (by decide) rfl) (dn 16 _ (by decide) rfl) (vNe_encT hrowR hrowR)).trans (by simp))]
  have cE : bOr [(b2 vNe (dName 9) (dName 10)), (b2 vNe (dName 11) (dName 12))] σ' = some false := by
    have a1 : (b2 vNe (dName 9) (dName 10)) σ' = some false := (b2_of (dn 9 _ (by decide) rfl) (dn 10 _ (by decide) rfl) (vNe_encC c c)).trans (by simp)
    have a2 : (b2 vNe (dName 11) (dName 12)) σ' = some false := (b2_of (dn 11 _ (by decide) rfl) (dn 12 _ (by decide) rfl) (vNe_encT hrow hrow)).trans (by simp)
    simp only [bOr, a1, a2]
  rw [pass_if cE]
  have i0 := dn 0 _ (by decide) rfl
  have f11 := fm_ok (g 23) (n := 11) (by decide)
  have f7a := fm_ok (g 22) (n := 7) (by decide)
  have f7b := fm_ok (g 2) (n := 7) (by decide)
  have hright := F_rightOk (k := (g 23).fmod 11) (a := (g 22).fmod 7 - 3) (b := (g 2).fmod 7 - 3) f11.1 f11.2 (bt_small (by omega) (by omega)) (bt_small (by omega) (by omega))
  refine (pass_if ?_).trans rfl
  unfold bNot bOf b1
  rw [call_of (aall_cons (d2_of (d2_of i0 rfl (it 23 (by decide))) rfl (vMod_pos (g 23) (by decide))) (aall_cons (d2_of (d2_of (d2_of i0 rfl (it 22 (by decide))) rfl (vMod_pos (g 22) (by decide))) rfl rfl) (aall_cons (d2_of (d2_of (d2_of i0 rfl (it 2 (by decide))) rfl (vMod_pos (g 2) (by decide))) rfl rfl) rfl))) hright]
  rfl
theorem pure7 (l : List Int) (h : ¬ ((63 : Nat) : Int) < (l.length : Int)) (hl : (PyData.list (l.map .int)).layable0 = true) : F_law [.val (.list (l.map .int))] = some (.bool true) := by
  refine law7 l (by omega) fun x hx => Nat.le_trans (weight_bt l x hx) ?_
  unfold PyData.layable0 at hl
  simp only [Bool.and_eq_true, decide_eq_true_eq] at hl
  have := hl.2
  rw [PyData.weight] at this
  exact this
end Mine
end
open PySem PySem.W PyProof.Rows
set_option maxRecDepth 100000 in
set_option maxHeartbeats 8000000 in
theorem PySem.Challenge.cw_sx_vrungs_7_holds : PySem.Challenge.rw_sx_vrungs_7.Holds := by
  w_on
  refine holds_law Mine.said7 fun said => ?_
  refine holds_open (q := Mine.q7) (loose := ["SIGN_OF"]) (Xt := fun s => xlAt Mine.q7 [] s && recOk [] s) (XP := XL Mine.q7 []) (Yf := Hook.obs Mine.hook7) (Ya := Hook.val Mine.hook7) (YP := Hook.says Mine.hook7) (N := 1866) Mine.left7 (Hook.of Mine.hook7) (Hook.keeps Mine.hook7) (fun s e => xl_of s (Bool.and_eq_true_iff.mp e).1) XL.keeps (by rfl) (by rfl) (by rfl) (fun s e => recFacts_of (Bool.and_eq_true_iff.mp e).2) (by rfl) said (by decide +kernel) ⟨rfl, rfl, rfl, rfl, rfl, by decide +kernel⟩ ?hw ?hc
  (case hw => w_witness2)
  intro w s₀ s₁ mg mb G Y fa o pm cd doc dV kV ho hd hcd hD hmg hg args vals as hpre hlay hrd hwl hlo
  have KX := kIn_of Y
  refine Ground.open G ?_
  intro T B D TE TW
  clear B
  wrow_args hpre hlay hrd hwl hlo
  refine Mine.join7 KX T (by kernel_rfl) (by decide +kernel) (T.seer (by decide +kernel)) hmg (by assumption) (Mine.pure7 _ (by assumption) (by assumption)) (fun s' e => ?_)
  refine GoodW.toG ⟨.inl ⟨_, .bool true, [], rfl, fun _ => rfl, .bool true, ?_, ?_⟩, e.keep, ?_, ?_⟩
  · kernel_rfl
  · exact fun _ => ⟨List.nodup_nil, fun _ h => nomatch h⟩
  · obtain ⟨h', tk, rfl⟩ := e.same; rfl
  · obtain ⟨h', tk, rfl⟩ := e.same; exact hg
