/- A region that draws its order: what holds in the text's order holds in each. -/
import Derived.Test.YtdaanchagjamfaaSh
namespace Go.SX
open Go Go.RowKit Go.Proofs.Ytdaanchagjamfaa

abbrev OR := Oper × Rec × Nat

/-- The operations that come ahead of one, as bits. -/
def maskOf (acc : List Nat) (o : Oper) : Nat := o.after.toList.foldl (fun m e => if Region.binds .any e then m ||| (1 <<< e.on) ||| acc.getD e.on 0 else m) 0
def masks : List Nat → List Oper → List Nat
  | acc, [] => acc
  | acc, o :: l => masks (acc ++ [maskOf acc o]) l
def noR (n : Nat) (rec : Rec) : Bool := rec.val.all (fun i => !inR n i) && rec.upd.all (fun p => !inR n p.1 && p.2.all (fun i => !inR n i))
def apartR (ops : Array Oper) (base i : Nat) (x : Oper × Rec) (j : Nat) (y : Oper × Rec) : Bool :=
  x.1.apart ops y.1 && x.2.upd.all (fun p => !y.2.ids.contains p.1 && y.2.upd.all (fun q => p.1 != q.1)) && y.2.upd.all (fun q => !x.2.ids.contains q.1) && noR (base + 8 * i) y.2 && noR (base + 8 * j) x.2
def goP (ops : Array Oper) (base i : Nat) (x : Oper × Rec) : Nat → List (Oper × Rec) → List Nat → Bool
  | j, y :: l, m :: ms => (m.testBit i || apartR ops base i x j y) && goP ops base i x (j + 1) l ms
  | _, _, _ => true
def allP (ops : Array Oper) (base : Nat) : Nat → List (Oper × Rec) → List Nat → Bool
  | k, x :: l, _ :: ms => goP ops base k x (k + 1) l ms && allP ops base (k + 1) l ms
  | _, _, _ => true
def backward (l : List Oper) : Bool := go 0 l where
  go : Nat → List Oper → Bool
  | _, [] => true
  | k, o :: l => o.after.toList.all (fun e => !Region.binds .any e || e.on < k) && go (k + 1) l
/-- The quick way: few operations touch blocks, each temporary is set once, and who looks at one waits for it. -/
def lightR (base : Nat) (x : Oper × Rec) : Bool := x.2.upd.isEmpty && x.2.val.all (fun i => decide (i < base))
def dstN (o : Oper) : Nat := match o.dst with
  | some t => t + 1
  | none => 0
def memN (x : Nat) : List Nat → Bool
  | [] => false
  | y :: l => Nat.beq x y || memN x l
def distB : List Nat → Bool
  | [] => true
  | x :: l => (Nat.beq x 0 || !(memN x l)) && distB l
def okT (t m : Nat) : Nat → List Nat → Bool
  | _, [] => true
  | i, d :: ds => (!(Nat.beq d t) || m.testBit i) && okT t m (i + 1) ds
def readsB (ops : Array Oper) (ds : List Nat) : List Oper → List Nat → Bool
  | o :: l, m :: ms => (o.looksAt ops).all (fun t => okT (t + 1) m 0 ds) && readsB ops ds l ms
  | _, _ => true
/-- One that touches blocks, against all others. -/
def heavyGo (ops : Array Oper) (base k mk : Nat) (x : Oper × Rec) : Nat → List (Oper × Rec) → List Nat → Bool
  | j, y :: l, m :: ms => (match Nat.blt k j with
    | true => m.testBit k || apartR ops base k x j y
    | false => (match Nat.beq j k with
      | true => true
      | false => mk.testBit j || apartR ops base j y k x)) && heavyGo ops base k mk x (j + 1) l ms
  | _, _, _ => true
def heavyB (ops : Array Oper) (base : Nat) (all : List (Oper × Rec)) (ms : List Nat) : Nat → List (Oper × Rec) → List Nat → Bool
  | k, x :: l, m :: ms' => (lightR base x || heavyGo ops base k m x 0 all ms) && heavyB ops base all ms (k + 1) l ms'
  | _, _, _ => true
def quickB (ops : Array Oper) (base : Nat) (l : List Oper) (rs : List Rec) (ms : List Nat) : Bool :=
  distB (l.map dstN) && readsB ops (l.map dstN) l ms && heavyB ops base (l.zip rs) ms 0 (l.zip rs) ms
def anyOk (ops : Array Oper) (base : Nat) (l : List Oper) (rs : List Rec) : Bool :=
  backward l && Region.noSelect ops && (quickB ops base l rs (masks [] l) || allP ops base 0 (l.zip rs) (masks [] l))
theorem memN_spec {x : Nat} : ∀ {l : List Nat}, memN x l = false → x ∉ l
  | [], _, h => by cases h
  | y :: l, h, hm => by
    simp only [memN, Bool.or_eq_false_iff] at h
    rcases List.mem_cons.1 hm with rfl | hm
    · simp at h
    · exact memN_spec h.2 hm
theorem distB_spec : ∀ {l : List Nat}, distB l = true → ∀ {i j x : Nat}, i < j → l[i]? = some (x + 1) → l[j]? ≠ some (x + 1)
  | [], _, i, j, x, _, h, _ => by simp at h
  | y :: l, h, i, j, x, hij, hi, hj => by
    simp only [distB, Bool.and_eq_true, Bool.or_eq_true, Bool.not_eq_true'] at h
    obtain ⟨j, rfl⟩ : ∃ q, j = q + 1 := ⟨j - 1, by omega⟩
    simp only [List.getElem?_cons_succ] at hj
    cases i with
    | zero =>
      simp only [List.getElem?_cons_zero, Option.some.injEq] at hi; subst hi
      rcases h.1 with h1 | h1
      · simp at h1
      · exact memN_spec h1 (List.mem_of_getElem? hj)
    | succ i =>
      simp only [List.getElem?_cons_succ] at hi
      exact distB_spec h.2 (by omega) hi hj
theorem okT_spec {t m : Nat} : ∀ {ds : List Nat} {i : Nat}, okT t m i ds = true → ∀ {k : Nat}, ds[k]? = some t → m.testBit (i + k) = true
  | [], _, _, k, h => by simp at h
  | d :: ds, i, h, k, hk => by
    simp only [okT, Bool.and_eq_true, Bool.or_eq_true, Bool.not_eq_true'] at h
    cases k with
    | zero =>
      simp only [List.getElem?_cons_zero, Option.some.injEq] at hk; subst hk
      rcases h.1 with h1 | h1
      · simp at h1
      · simpa using h1
    | succ k =>
      have := okT_spec h.2 (k := k) (by simpa using hk)
      rw [show i + (k + 1) = i + 1 + k by omega]; exact this
theorem readsB_spec {ops : Array Oper} {ds : List Nat} : ∀ {l : List Oper} {ms : List Nat}, readsB ops ds l ms = true → ∀ {j : Nat} {o : Oper} {m : Nat}, l[j]? = some o → ms[j]? = some m → ∀ t ∈ o.looksAt ops, ∀ {k : Nat}, ds[k]? = some (t + 1) → m.testBit k = true
  | [], _, _, j, o, m, h, _, _, _, _, _ => by simp at h
  | _ :: _, [], _, j, o, m, _, h, _, _, _, _ => by simp at h
  | x :: l, y :: ms, h, j, o, m, h1, h2, t, ht, k, hk => by
    simp only [readsB, Bool.and_eq_true, List.all_eq_true] at h
    cases j with
    | zero =>
      simp only [List.getElem?_cons_zero, Option.some.injEq] at h1 h2; subst h1 h2
      have := okT_spec (h.1 t ht) hk
      simpa using this
    | succ j => exact readsB_spec h.2 (by simpa using h1) (by simpa using h2) t ht hk
theorem heavyGo_spec {ops : Array Oper} {base k mk : Nat} {x : Oper × Rec} : ∀ {l : List (Oper × Rec)} {ms : List Nat} {j0 : Nat}, heavyGo ops base k mk x j0 l ms = true → ∀ {j : Nat} {y : Oper × Rec} {m : Nat}, l[j]? = some y → ms[j]? = some m →
    (k < j0 + j → m.testBit k = true ∨ apartR ops base k x (j0 + j) y = true) ∧ (j0 + j < k → mk.testBit (j0 + j) = true ∨ apartR ops base (j0 + j) y k x = true)
  | [], _, _, _, j, y, m, h, _ => by simp at h
  | _ :: _, [], _, _, j, y, m, _, h => by simp at h
  | z :: l, n :: ms, j0, h, 0, y, m, h1, h2 => by
    simp only [List.getElem?_cons_zero, Option.some.injEq] at h1 h2; subst h1 h2
    simp only [heavyGo, Bool.and_eq_true] at h
    have h := h.1
    refine ⟨fun hlt => ?_, fun hlt => ?_⟩
    · have e : Nat.blt k j0 = true := by rw [Nat.blt_eq]; omega
      rw [e] at h
      simpa using h
    · have e : Nat.blt k j0 = false := by rw [Bool.eq_false_iff, ne_eq, Nat.blt_eq]; omega
      have e2 : Nat.beq j0 k = false := by rw [Bool.eq_false_iff, ne_eq, Nat.beq_eq]; omega
      rw [e] at h
      simp only [e2] at h
      simpa using h
  | z :: l, n :: ms, j0, h, j + 1, y, m, h1, h2 => by
    simp only [List.getElem?_cons_succ] at h1 h2
    simp only [heavyGo, Bool.and_eq_true] at h
    have := heavyGo_spec h.2 h1 h2
    rw [show j0 + (j + 1) = j0 + 1 + j by omega]; exact this
theorem heavyB_spec {ops : Array Oper} {base : Nat} {all : List (Oper × Rec)} {ms0 : List Nat} : ∀ {l : List (Oper × Rec)} {ms : List Nat} {k0 : Nat}, heavyB ops base all ms0 k0 l ms = true → ∀ {k : Nat} {x : Oper × Rec} {m : Nat}, l[k]? = some x → ms[k]? = some m → lightR base x = true ∨ heavyGo ops base (k0 + k) m x 0 all ms0 = true
  | [], _, _, _, k, x, m, h, _ => by simp at h
  | _ :: _, [], _, _, k, x, m, _, h => by simp at h
  | z :: l, n :: ms, k0, h, 0, x, m, h1, h2 => by
    simp only [List.getElem?_cons_zero, Option.some.injEq] at h1 h2; subst h1 h2
    simp only [heavyB, Bool.and_eq_true, Bool.or_eq_true] at h
    exact h.1
  | z :: l, n :: ms, k0, h, k + 1, x, m, h1, h2 => by
    simp only [List.getElem?_cons_succ] at h1 h2
    simp only [heavyB, Bool.and_eq_true] at h
    have := heavyB_spec h.2 h1 h2
    rw [show k0 + (k + 1) = k0 + 1 + k by omega]; exact this
theorem light_noR {base n : Nat} {x : Oper × Rec} (h : lightR base x = true) : noR (base + n) x.2 = true := by
  unfold lightR at h
  simp only [Bool.and_eq_true, List.isEmpty_iff] at h
  unfold noR
  rw [h.1]
  simp only [List.all_nil, Bool.and_true]
  exact all_mono (fun id hid => by simp only [decide_eq_true_eq] at hid; simp [inR]; omega) _ h.2
theorem quickB_spec {ops : Array Oper} {base : Nat} {l : List Oper} {rs : List Rec} {ms : List Nat} (h : quickB ops base l rs ms = true) (hlen : rs.length = l.length) : ∀ (i j : Nat) (x y : Oper × Rec) (m : Nat), i < j → (l.zip rs)[i]? = some x → (l.zip rs)[j]? = some y → ms[j]? = some m → ms[i]? ≠ none → (∀ mi k, ms[i]? = some mi → mi.testBit k = true → k < i) → m.testBit i = true ∨ apartR ops base i x j y = true := by
  intro i j x y m hij hx hy hm hmi hback
  unfold quickB at h
  simp only [Bool.and_eq_true] at h
  obtain ⟨⟨hA, hB⟩, hC⟩ := h
  obtain ⟨mi, hmi⟩ : ∃ mi, ms[i]? = some mi := Option.ne_none_iff_exists'.1 hmi
  rcases heavyB_spec hC hx hmi with lx | gx
  · rcases heavyB_spec hC hy hm with ly | gy
    · by_cases hb : m.testBit i = true
      · exact .inl hb
      · refine .inr ?_
        obtain ⟨hxo, _⟩ := List.getElem?_zip_eq_some.1 hx
        obtain ⟨hyo, _⟩ := List.getElem?_zip_eq_some.1 hy
        have dN : ∀ (k : Nat) (o : Oper) (d : Nat), l[k]? = some o → o.dst = some d → (l.map dstN)[k]? = some (d + 1) := by
          intro k o d ho hd
          rw [List.getElem?_map, ho]; simp [dstN, hd]
        have ap : x.1.apart ops y.1 = true := by
          unfold Oper.apart
          rw [Bool.and_eq_true]
          constructor
          · split
            · rename_i d hd
              rw [Bool.and_eq_true]
              constructor
              · rw [Bool.not_eq_true', Bool.eq_false_iff]
                intro hc
                exact hb (readsB_spec hB hyo hm d (by simpa using hc) (dN i x.1 d hxo hd))
              · rw [bne_iff_ne]
                intro he
                exact distB_spec hA hij (dN i x.1 d hxo hd) (dN j y.1 d hyo he)
            · rfl
          · split
            · rename_i d hd
              rw [Bool.not_eq_true', Bool.eq_false_iff]
              intro hc
              have := readsB_spec hB hxo hmi d (by simpa using hc) (dN j y.1 d hyo hd)
              have := hback mi j hmi this
              omega
            · rfl
        have ux : x.2.upd = [] := by unfold lightR at lx; simp only [Bool.and_eq_true, List.isEmpty_iff] at lx; exact lx.1
        have uy : y.2.upd = [] := by unfold lightR at ly; simp only [Bool.and_eq_true, List.isEmpty_iff] at ly; exact ly.1
        unfold apartR
        rw [ap, ux, uy, light_noR lx, light_noR ly]; rfl
    · have := heavyGo_spec gy hx hmi
      simp only [Nat.zero_add] at this
      exact this.2 hij
  · have := heavyGo_spec gx hy hm
    simp only [Nat.zero_add] at this
    exact this.1 hij

theorem goP_spec {ops : Array Oper} {base i : Nat} {x : Oper × Rec} : ∀ {l : List (Oper × Rec)} {ms : List Nat} {j : Nat}, goP ops base i x j l ms = true → ∀ {k y m}, l[k]? = some y → ms[k]? = some m → m.testBit i = true ∨ apartR ops base i x (j + k) y = true
  | [], _, _, _, k, y, m, h, _ => by simp at h
  | _ :: _, [], _, _, k, y, m, _, h => by simp at h
  | z :: l, n :: ms, j, h, 0, y, m, h1, h2 => by
    simp only [List.getElem?_cons_zero, Option.some.injEq] at h1 h2; subst h1 h2
    simp only [goP, Bool.and_eq_true, Bool.or_eq_true] at h
    exact h.1
  | z :: l, n :: ms, j, h, k + 1, y, m, h1, h2 => by
    simp only [List.getElem?_cons_succ] at h1 h2
    simp only [goP, Bool.and_eq_true] at h
    have := goP_spec h.2 h1 h2
    rw [show j + (k + 1) = j + 1 + k by omega]; exact this
theorem allP_spec {ops : Array Oper} {base : Nat} : ∀ (l : List (Oper × Rec)) (ms : List Nat) (k : Nat), ms.length = l.length → allP ops base k l ms = true → ∀ (i j i' j' : Nat) (x y : Oper × Rec) (m : Nat), i < j → i' = k + i → j' = k + j → l[i]? = some x → l[j]? = some y → ms[j]? = some m → m.testBit i' = true ∨ apartR ops base i' x j' y = true := by
  intro l
  induction l with
  | nil => intro ms k _ _ i j i' j' x y m _ _ _ h; simp at h
  | cons z l ih =>
    intro ms k hl h i j i' j' x y m hij hi' hj' h1 h2 h3
    cases ms with
    | nil => simp at hl
    | cons n ms =>
      simp only [allP, Bool.and_eq_true] at h
      obtain ⟨j, rfl⟩ : ∃ q, j = q + 1 := ⟨j - 1, by omega⟩
      simp only [List.getElem?_cons_succ] at h2 h3
      cases i with
      | zero =>
        simp only [List.getElem?_cons_zero, Option.some.injEq] at h1; subst h1
        have := goP_spec h.1 h2 h3
        have e1 : k = i' := by omega
        have e2 : k + 1 + j = j' := by omega
        rw [e1, ← e1, e2, e1] at this
        exact this
      | succ i =>
        simp only [List.getElem?_cons_succ] at h1
        exact ih ms (k + 1) (by simpa using hl) h.2 i j i' j' x y m (by omega) (by omega) (by omega) h1 h2 h3

/-- The bits say what must have come up. -/
theorem foldl_or_bit (acc : List Nat) (b : Nat) : ∀ (es : List Edge) (m : Nat), (es.foldl (fun m e => if Region.binds .any e then m ||| (1 <<< e.on) ||| acc.getD e.on 0 else m) m).testBit b = true →
    m.testBit b = true ∨ ∃ e ∈ es, Region.binds .any e = true ∧ (e.on = b ∨ (acc.getD e.on 0).testBit b = true)
  | [], m, h => .inl h
  | e :: es, m, h => by
    rw [List.foldl_cons] at h
    rcases foldl_or_bit acc b es _ h with h1 | ⟨e', h1, h2⟩
    · split at h1
      · rename_i hb
        simp only [Nat.testBit_or, Bool.or_eq_true] at h1
        rcases h1 with (h1 | h1) | h1
        · exact .inl h1
        · refine .inr ⟨e, by simp, hb, .inl ?_⟩
          rw [Nat.one_shiftLeft, Nat.testBit_two_pow] at h1
          simpa using h1
        · exact .inr ⟨e, by simp, hb, .inr h1⟩
      · exact .inl h1
    · exact .inr ⟨e', by simp [h1], h2⟩
theorem masks_spec (L : Nat → Prop) (all : List Oper) (hdown : ∀ (j : Nat) (o : Oper), all[j]? = some o → L j → ∀ e ∈ o.after.toList, Region.binds .any e = true → L e.on) :
    ∀ (l : List Oper) (pre : List Oper) (acc : List Nat), all = pre ++ l → acc.length = pre.length →
      (∀ (j : Nat) (o : Oper) (m : Nat), all[j]? = some o → acc[j]? = some m → (∀ e ∈ o.after.toList, Region.binds .any e = true → L e.on) → ∀ b, m.testBit b = true → L b) →
      (masks acc l).length = all.length ∧ ∀ (j : Nat) (o : Oper) (m : Nat), all[j]? = some o → (masks acc l)[j]? = some m → (∀ e ∈ o.after.toList, Region.binds .any e = true → L e.on) → ∀ b, m.testBit b = true → L b
  | [], pre, acc, hall, hlen, h => ⟨by rw [hall]; simpa [masks] using hlen, h⟩
  | o :: l, pre, acc, hall, hlen, h => by
    refine masks_spec L all hdown l (pre ++ [o]) _ (by rw [hall]; simp) (by simp [hlen]) ?_
    intro j o' m ho' hm hpre b hb
    rw [List.getElem?_append] at hm
    split at hm
    · exact h j o' m ho' hm hpre b hb
    · rename_i hj
      have hj' : j - acc.length = 0 := by
        have := (List.getElem?_eq_some_iff.1 hm).1
        simp at this; omega
      have ho : o' = o := by
        have hj2 : j = pre.length := by omega
        rw [hall, hj2] at ho'
        simpa using ho'.symm
      subst ho
      rw [hj'] at hm
      simp only [List.getElem?_cons_zero, Option.some.injEq] at hm; subst hm
      unfold maskOf at hb
      rcases foldl_or_bit acc b _ _ hb with h1 | ⟨e, he, hbi, h1 | h1⟩
      · simp at h1
      · rw [← h1]; exact hpre e he hbi
      · have hLe := hpre e he hbi
        cases hae : acc[e.on]? with
        | none => rw [List.getD_eq_getElem?_getD, hae] at h1; simp at h1
        | some m2 =>
          rw [List.getD_eq_getElem?_getD, hae] at h1
          have hlt := (List.getElem?_eq_some_iff.1 hae).1
          obtain ⟨o2, ho2⟩ : ∃ o2, all[e.on]? = some o2 := ⟨_, List.getElem?_eq_getElem (by rw [hall, List.length_append]; omega)⟩
          exact h e.on o2 m2 ho2 hae (hdown e.on o2 ho2 hLe) b h1

end Go.SX
