/- A region that draws its order: what holds in the text's order holds in each. -/
import Derived.Test.YtdaanchagjamfaaSh
namespace Go.SX
open Go Go.RowKit Go.Proofs.Ytdaanchagjamfaa

abbrev OR := Oper × Rec × Nat

/-- The operations that come ahead of one, as bits. -/
def maskOf (acc : List Nat) (o : Oper) : Nat := o.after.toList.foldl (fun m e => if Region.binds .any e then m ||| (1 <<< e.on) ||| acc.getD e.on 0 else m) 0
def masks : List Nat → List Oper → List Nat
  | acc, [] => acc
  | acc, o :: l => masks (acc ++ [maskOf acc o]) l
def noR (n : Nat) (rec : Rec) : Bool := rec.val.all (fun i => !inR n i) && rec.upd.all (fun p => !inR n p.1 && p.2.all (fun i => !inR n i))
def apartR (ops : Array Oper) (base i : Nat) (x : Oper × Rec) (j : Nat) (y : Oper × Rec) : Bool :=
  x.1.apart ops y.1 && x.2.upd.all (fun p => !y.2.ids.contains p.1 && y.2.upd.all (fun q => p.1 != q.1)) && y.2.upd.all (fun q => !x.2.ids.contains q.1) && noR (base + 8 * i) y.2 && noR (base + 8 * j) x.2
def goP (ops : Array Oper) (base i : Nat) (x : Oper × Rec) : Nat → List (Oper × Rec) → List Nat → Bool
  | j, y :: l, m :: ms => (m.testBit i || apartR ops base i x j y) && goP ops base i x (j + 1) l ms
  | _, _, _ => true
def allP (ops : Array Oper) (base : Nat) : Nat → List (Oper × Rec) → List Nat → Bool
  | k, x :: l, _ :: ms => goP ops base k x (k + 1) l ms && allP ops base (k + 1) l ms
  | _, _, _ => true
def backward (l : List Oper) : Bool := go 0 l where
  go : Nat → List Oper → Bool
  | _, [] => true
  | k, o :: l => o.after.toList.all (fun e => !Region.binds .any e || e.on < k) && go (k + 1) l
def anyOk (ops : Array Oper) (base : Nat) (l : List Oper) (rs : List Rec) : Bool :=
  backward l && Region.noSelect ops && allP ops base 0 (l.zip rs) (masks [] l)

theorem goP_spec {ops : Array Oper} {base i : Nat} {x : Oper × Rec} : ∀ {l : List (Oper × Rec)} {ms : List Nat} {j : Nat}, goP ops base i x j l ms = true → ∀ {k y m}, l[k]? = some y → ms[k]? = some m → m.testBit i = true ∨ apartR ops base i x (j + k) y = true
  | [], _, _, _, k, y, m, h, _ => by simp at h
  | _ :: _, [], _, _, k, y, m, _, h => by simp at h
  | z :: l, n :: ms, j, h, 0, y, m, h1, h2 => by
    simp only [List.getElem?_cons_zero, Option.some.injEq] at h1 h2; subst h1 h2
    simp only [goP, Bool.and_eq_true, Bool.or_eq_true] at h
    exact h.1
  | z :: l, n :: ms, j, h, k + 1, y, m, h1, h2 => by
    simp only [List.getElem?_cons_succ] at h1 h2
    simp only [goP, Bool.and_eq_true] at h
    have := goP_spec h.2 h1 h2
    rw [show j + (k + 1) = j + 1 + k by omega]; exact this
theorem allP_spec {ops : Array Oper} {base : Nat} : ∀ (l : List (Oper × Rec)) (ms : List Nat) (k : Nat), ms.length = l.length → allP ops base k l ms = true → ∀ (i j i' j' : Nat) (x y : Oper × Rec) (m : Nat), i < j → i' = k + i → j' = k + j → l[i]? = some x → l[j]? = some y → ms[j]? = some m → m.testBit i' = true ∨ apartR ops base i' x j' y = true := by
  intro l
  induction l with
  | nil => intro ms k _ _ i j i' j' x y m _ _ _ h; simp at h
  | cons z l ih =>
    intro ms k hl h i j i' j' x y m hij hi' hj' h1 h2 h3
    cases ms with
    | nil => simp at hl
    | cons n ms =>
      simp only [allP, Bool.and_eq_true] at h
      obtain ⟨j, rfl⟩ : ∃ q, j = q + 1 := ⟨j - 1, by omega⟩
      simp only [List.getElem?_cons_succ] at h2 h3
      cases i with
      | zero =>
        simp only [List.getElem?_cons_zero, Option.some.injEq] at h1; subst h1
        have := goP_spec h.1 h2 h3
        have e1 : k = i' := by omega
        have e2 : k + 1 + j = j' := by omega
        rw [e1, ← e1, e2, e1] at this
        exact this
      | succ i =>
        simp only [List.getElem?_cons_succ] at h1
        exact ih ms (k + 1) (by simpa using hl) h.2 i j i' j' x y m (by omega) (by omega) (by omega) h1 h2 h3

/-- The bits say what must have come up. -/
theorem foldl_or_bit (acc : List Nat) (b : Nat) : ∀ (es : List Edge) (m : Nat), (es.foldl (fun m e => if Region.binds .any e then m ||| (1 <<< e.on) ||| acc.getD e.on 0 else m) m).testBit b = true →
    m.testBit b = true ∨ ∃ e ∈ es, Region.binds .any e = true ∧ (e.on = b ∨ (acc.getD e.on 0).testBit b = true)
  | [], m, h => .inl h
  | e :: es, m, h => by
    rw [List.foldl_cons] at h
    rcases foldl_or_bit acc b es _ h with h1 | ⟨e', h1, h2⟩
    · split at h1
      · rename_i hb
        simp only [Nat.testBit_or, Bool.or_eq_true] at h1
        rcases h1 with (h1 | h1) | h1
        · exact .inl h1
        · refine .inr ⟨e, by simp, hb, .inl ?_⟩
          rw [Nat.one_shiftLeft, Nat.testBit_two_pow] at h1
          simpa using h1
        · exact .inr ⟨e, by simp, hb, .inr h1⟩
      · exact .inl h1
    · exact .inr ⟨e', by simp [h1], h2⟩
theorem masks_spec (L : Nat → Prop) (all : List Oper) (hdown : ∀ (j : Nat) (o : Oper), all[j]? = some o → L j → ∀ e ∈ o.after.toList, Region.binds .any e = true → L e.on) :
    ∀ (l : List Oper) (pre : List Oper) (acc : List Nat), all = pre ++ l → acc.length = pre.length →
      (∀ (j : Nat) (o : Oper) (m : Nat), all[j]? = some o → acc[j]? = some m → (∀ e ∈ o.after.toList, Region.binds .any e = true → L e.on) → ∀ b, m.testBit b = true → L b) →
      (masks acc l).length = all.length ∧ ∀ (j : Nat) (o : Oper) (m : Nat), all[j]? = some o → (masks acc l)[j]? = some m → (∀ e ∈ o.after.toList, Region.binds .any e = true → L e.on) → ∀ b, m.testBit b = true → L b
  | [], pre, acc, hall, hlen, h => ⟨by rw [hall]; simpa [masks] using hlen, h⟩
  | o :: l, pre, acc, hall, hlen, h => by
    refine masks_spec L all hdown l (pre ++ [o]) _ (by rw [hall]; simp) (by simp [hlen]) ?_
    intro j o' m ho' hm hpre b hb
    rw [List.getElem?_append] at hm
    split at hm
    · exact h j o' m ho' hm hpre b hb
    · rename_i hj
      have hj' : j - acc.length = 0 := by
        have := (List.getElem?_eq_some_iff.1 hm).1
        simp at this; omega
      have ho : o' = o := by
        have hj2 : j = pre.length := by omega
        rw [hall, hj2] at ho'
        simpa using ho'.symm
      subst ho
      rw [hj'] at hm
      simp only [List.getElem?_cons_zero, Option.some.injEq] at hm; subst hm
      unfold maskOf at hb
      rcases foldl_or_bit acc b _ _ hb with h1 | ⟨e, he, hbi, h1 | h1⟩
      · simp at h1
      · rw [← h1]; exact hpre e he hbi
      · have hLe := hpre e he hbi
        cases hae : acc[e.on]? with
        | none => rw [List.getD_eq_getElem?_getD, hae] at h1; simp at h1
        | some m2 =>
          rw [List.getD_eq_getElem?_getD, hae] at h1
          have hlt := (List.getElem?_eq_some_iff.1 hae).1
          obtain ⟨o2, ho2⟩ : ∃ o2, all[e.on]? = some o2 := ⟨_, List.getElem?_eq_getElem (by rw [hall, List.length_append]; omega)⟩
          exact h e.on o2 m2 ho2 hae (hdown e.on o2 ho2 hLe) b h1

end Go.SX
