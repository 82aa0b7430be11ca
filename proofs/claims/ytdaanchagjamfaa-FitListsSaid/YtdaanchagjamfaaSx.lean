/- What a state has to do with a pattern: which block stands for which, and what must be equal. Loops by invariants, told ahead where they begin and how they end. -/
import Derived.Test.YtdaanchagjamfaaSp
import Derived.Test.YtdaanchagjamfaaSq
import Derived.Test.YtdaanchagjamfaaSw
namespace Go.SX
open Go Go.RowKit Go.Proofs.Ytdaanchagjamfaa

inductive Cv where
  | same
  | ghost
  | lift
/-- The pattern's number, the state's, and how. -/
structure Pr where
  p : Nat
  s : Nat
  c : Cv
mutual
def prV : AV → AV → List Pr
  | .ptr id _ _, .ptr id' _ _ => [⟨id', id, .same⟩]
  | .slice _ id _ _ _, .slice _ id' _ _ _ => [⟨id', id, .same⟩]
  | .slice _ id _ _ _, .slz id' _ _ _ => [⟨id', id, .lift⟩]
  | .slz id _ _ _, .slz id' _ _ _ => [⟨id', id, .same⟩]
  | .nils, .slz id' _ _ _ => [⟨id', 0, .ghost⟩]
  | .map id, .map id' => [⟨id', id, .same⟩]
  | .yld id, .yld id' => [⟨id', id, .same⟩]
  | .fn _ l, .fn _ l' => prL l l'
  | .ifc _ v, .ifc _ v' => prV v v'
  | .agg l, .agg l' => prL l l'
  | .tup l, .tup l' => prL l l'
  | _, _ => []
def prL : List AV → List AV → List Pr
  | v :: l, v' :: l' => prV v v' ++ prL l l'
  | _, _ => []
end
def findP : List Pr → Nat → Option Pr
  | [], _ => none
  | x :: l, i => match Nat.beq x.p i with
    | true => some x
    | false => findP l i
def addP : List Pr → List Pr → List Pr
  | [], acc => acc
  | x :: l, acc => match findP acc x.p with
    | some _ => addP l acc
    | none => addP l (acc ++ [x])
def prB : Blk → Blk → List Pr
  | .cells _ _ l, .cells _ _ l' => prL l l'
  | .cells _ _ l, .cellsR _ _ l' => prL l l'
  | .cellsR _ _ l, .cellsR _ _ l' => prL l l'
  | .lp _ _ l _ _ _, .lp _ _ l' _ _ _ => prL l l'
  | _, _ => []
def stepP (h hJ : List (Nat × Blk)) (Q : List Pr) : List Pr := addP (Q.flatMap fun x => match look h x.s, look hJ x.p with
  | some b, some b' => prB b b'
  | _, _ => []) Q
def baseP (n0 : Nat) : List (Nat × Blk) → List Pr
  | [] => []
  | (i, _) :: l => match Nat.blt i n0 with
    | true => ⟨i, i, .same⟩ :: baseP n0 l
    | false => baseP n0 l
def unif (n0 : Nat) (vals Jv : List AV) (h hJ : List (Nat × Blk)) : List Pr := stepP h hJ (stepP h hJ (stepP h hJ (addP (prL vals Jv) (baseP n0 hJ))))

def isP (Q : List Pr) (p s : Nat) : Bool := match findP Q p with
  | some ⟨_, s', .same⟩ => Nat.beq s s'
  | some ⟨_, s', .lift⟩ => Nat.beq s s'
  | _ => false
def isLift (Q : List Pr) (p s : Nat) : Bool := match findP Q p with
  | some ⟨_, s', .lift⟩ => Nat.beq s s'
  | _ => false
def isSame (Q : List Pr) (p s : Nat) : Bool := match findP Q p with
  | some ⟨_, s', .same⟩ => Nat.beq s s'
  | _ => false
def isGhost (Q : List Pr) (p : Nat) : Bool := match findP Q p with
  | some ⟨_, _, .ghost⟩ => true
  | _ => false
def kindB : IntKind → IntKind → Bool
  | k, k' => k == k'
mutual
/-- What must be equal. -/
def eqV (Q : List Pr) : AV → AV → Option (List Prop)
  | .int _ k n, .int _ k' n' => match kindB k k' with | true => some [n = n'] | false => none
  | .bool _ b, .bool _ b' => some [b = b']
  | .ptr id e j, .ptr id' e' j' => match isP Q id' id with | true => some [e = e', j = j'] | false => none
  | .addr a, .addr a' => some [a = a']
  | .nilp, .nilp => some []
  | .slice _ id e n cp, .slice _ id' e' n' cp' => match isP Q id' id with | true => some [e = e', n = n', cp = cp'] | false => none
  | .slice _ id e n cp, .slz id' e' n' cp' => match isLift Q id' id with | true => some [e = e', n = n', cp = cp'] | false => none
  | .slz id e n cp, .slz id' e' n' cp' => match isSame Q id' id with | true => some [e = e', n = n', cp = cp'] | false => none
  | .nils, .slz id' _ n' _ => match isGhost Q id' with | true => some [n' = 0] | false => none
  | .nils, .nils => some []
  | .map id, .map id' => match isP Q id' id with | true => some [] | false => none
  | .yld id, .yld id' => match isP Q id' id with | true => some [] | false => none
  | .nilm, .nilm => some []
  | .fn f l, .fn f' l' => match eqL Q l l' with | some ps => some ((f = f') :: ps) | none => none
  | .nilf, .nilf => some []
  | .ifc t v, .ifc t' v' => match eqV Q v v' with | some ps => some ((t = t') :: ps) | none => none
  | .nili, .nili => some []
  | .str s, .str s' => some [s = s']
  | .agg l, .agg l' => eqL Q l l'
  | .tup l, .tup l' => eqL Q l l'
  | .raw v, .raw v' => some [v = v']
  | _, _ => none
def eqL (Q : List Pr) : List AV → List AV → Option (List Prop)
  | [], [] => some []
  | v :: l, v' :: l' => match eqV Q v v', eqL Q l l' with
    | some ps, some qs => some (ps ++ qs)
    | _, _ => none
  | _, _ => none
end
/-- The numbers of two rows are equal. -/
def eqF : Nat → Nat → (Nat → Int) → (Nat → Int) → Prop
  | 0, _, _, _ => True
  | n + 1, j, f, g => f j = g j ∧ eqF n (j + 1) f g
theorem eqF_get : ∀ {n j : Nat} {f g : Nat → Int}, eqF n j f g → ∀ i, i < n → f (j + i) = g (j + i)
  | 0, _, _, _, _, i, hi => by omega
  | n + 1, j, f, g, h, 0, _ => h.1
  | n + 1, j, f, g, h, i + 1, hi => by
    have := eqF_get h.2 i (by omega)
    rw [show j + (i + 1) = j + 1 + i by omega]; exact this
def RowsEq (m n : Nat) (g g' : Nat → Nat → Int) : Prop := ∀ i, i < n → eqF m 0 (g i) (g' i)
theorem eqF_refl : ∀ (n j : Nat) (f : Nat → Int), eqF n j f f
  | 0, _, _ => trivial
  | n + 1, j, f => ⟨rfl, eqF_refl n (j + 1) f⟩
theorem RowsEq.refl (m n : Nat) (g : Nat → Nat → Int) : RowsEq m n g g := fun _ _ => eqF_refl _ _ _
def RowsIs (ks : List CK) (l : List (List AV)) (n : Nat) (g' : Nat → Nat → Int) : Prop := n ≤ l.length ∧ ∀ i, i < n → ∀ x, l[i]? = some x → ∀ r, AV.denL r x = AV.denL r (rowG ks g' i)
def ArrIs (ks : List CK) (n : Nat) (g : Nat → List AV) (g' : Nat → Nat → Int) : Prop := ∀ i, i < n → ∀ r, AV.denL r (g i) = AV.denL r (rowG ks g' i)
def Rows2Eq (m n : Nat) (ln ln' : Nat → Nat) (g g' : Nat → Nat → Nat → Int) : Prop := ∀ i, i < n → ln i = ln' i ∧ RowsEq m (ln' i) (g i) (g' i)
def MapEq (z z' : AV) (has has' : Int → Bool) (g g' : Int → AV) : Prop := (∀ r, z.den r = z'.den r) ∧ z'.all (fun _ => false) = true ∧ (∀ n, has n = has' n) ∧ ∀ n, (∀ r, (g n).den r = (g' n).den r) ∧ (g' n).all (fun _ => false) = true
def MapNil (z : AV) (has : Int → Bool) (g : Int → AV) : Prop := z.all (fun _ => false) = true ∧ (∀ n, has n = false) ∧ ∀ n, (∀ r, (g n).den r = z.den r) ∧ (g n).all (fun _ => false) = true
def eqB (Q : List Pr) (c : Cv) : Blk → Blk → Option (List Prop)
  | .cells z t l, .cells z' t' l' => match c, Nat.beq z z', Nat.beq t t' with | .same, true, true => eqL Q l l' | _, _, _ => none
  | .cells z t l, .cellsR z' t' l' => match c, Nat.beq z z', Nat.beq t t' with | .same, true, true => eqL Q l l' | _, _, _ => none
  | .cellsR z t l, .cellsR z' t' l' => match c, Nat.beq z z', Nat.beq t t' with | .same, true, true => eqL Q l l' | _, _, _ => none
  | .rowl t z l, .rowl t' z' l' => match c, Nat.beq z z', Nat.beq t t' with | .same, true, true => some [l = l', l.all (AV.allL fun _ => false) = true] | _, _, _ => none
  | .arr z n g, .arr z' n' g' => match c, Nat.beq z z' with | .same, true => some [n = n', g = g'] | _, _ => none
  | .rowz o t ks n g, .rowz o' t' ks' n' g' => match c, ksB ks ks', Nat.beq t t', (o || !o') with | .same, true, true, true => some [n' ≤ n, RowsEq ks'.length n' g g'] | _, _, _, _ => none
  | .rowz _ _ ks n g, .frz ks' n' g' => match c, ksB ks ks' with | .same, true => some [n' ≤ n, RowsEq ks'.length n' g g'] | _, _ => none
  | .frz ks n g, .frz ks' n' g' => match c, ksB ks ks' with | .same, true => some [n' ≤ n, RowsEq ks'.length n' g g'] | _, _ => none
  | .frz2 o t ks n ln g, .frz2 o' t' ks' n' ln' g' => match c, ksB ks ks', Nat.beq t t', (o || !o') with | .same, true, true, true => some [n = n', Rows2Eq ks'.length n' ln ln' g g'] | _, _, _, _ => none
  | .rowl t z l, .rowz _ t' ks' n' g' => match c, Nat.beq z ks'.length, Nat.beq t t' with | .lift, true, true => some [RowsIs ks' l n' g'] | _, _, _ => none
  | .rowl _ z l, .frz ks' n' g' => match c, Nat.beq z ks'.length with | .lift, true => some [RowsIs ks' l n' g'] | _, _ => none
  | .rowlR _ z l, .frz ks' n' g' => match c, Nat.beq z ks'.length with | .lift, true => some [RowsIs ks' l n' g'] | _, _ => none
  | .arr z n g, .frz ks' n' g' => match c, Nat.beq z ks'.length with | .lift, true => some [n' ≤ n, ArrIs ks' n' g g'] | _, _ => none
  | .mp es cl, .mp es' cl' => match c with | .same => some [es = es', cl = cl'] | _ => none
  | .mp es _, .mpf _ z has g => match c with | .same => some [es = [], MapNil z has g] | _ => none
  | .mpf k z has g, .mpf k' z' has' g' => match c, kindB k k' with | .same, true => some [MapEq z z' has has' g g'] | _, _ => none
  | .lp s pe l ps as body, .lp s' pe' l' ps' as' body' => match c, eqL Q l l' with | .same, some qs => some ((s = s') :: (pe = pe') :: (ps = ps') :: (as = as') :: (body = body') :: qs) | _, _ => none
  | _, _ => none
/-- What has no block of its own. -/
def eqG : Blk → Option (List Prop)
  | .rowz _ _ _ n _ => some [n = 0]
  | .frz _ n _ => some [n = 0]
  | _ => none
def eqH (Q : List Pr) (h : List (Nat × Blk)) : List (Nat × Blk) → Option (List Prop)
  | [] => some []
  | (i, b) :: l => match findP Q i with
    | some ⟨_, _, .ghost⟩ => (match eqG b, eqH Q h l with
      | some ps, some qs => some (ps ++ qs)
      | _, _ => none)
    | some ⟨_, s, c⟩ => (match look h s with
      | some b' => (match eqB Q c b' b, eqH Q h l with
        | some ps, some qs => some (ps ++ qs)
        | _, _ => none)
      | none => none)
    | none => none
/-- No two of the pattern's blocks are one of the state's. -/
def injP (Q : List Pr) : List (Nat × Blk) → Bool
  | [] => true
  | (i, _) :: l => (match findP Q i with
    | some ⟨_, s, c⟩ => l.all fun p => match findP Q p.1 with
      | some ⟨_, s', c'⟩ => (match c, c' with
        | .ghost, _ => true
        | _, .ghost => true
        | _, _ => !(Nat.beq s s'))
      | none => false
    | none => false) && injP Q l
def lowP (n0 : Nat) : List Pr → Bool
  | [] => true
  | x :: l => (match Nat.blt x.p n0 with
    | true => (match x.c with | .same => Nat.beq x.p x.s | _ => false)
    | false => true) && lowP n0 l
def distH : List (Nat × Blk) → Bool
  | [] => true
  | (i, _) :: l => (l.all fun p => !(Nat.beq i p.1)) && distH l
def subE (n0 : Nat) (vals : List AV) (h : List (Nat × Blk)) (J : JSt) : Option (List Prop) :=
  match unif n0 vals (J.live.map (·.2)) h J.hp with
  | Q => match eqL Q vals (J.live.map (·.2)), eqH Q h J.hp, (scopeJ J && (injP Q J.hp && (lowP n0 Q && (noDfr h && distH J.hp)))) with
    | some ps, some qs, true => some (ps ++ qs)
    | _, _, _ => none
def allE : List Prop → Prop
  | [] => True
  | p :: l => p ∧ allE l
theorem allE_append : ∀ {a b : List Prop}, allE (a ++ b) ↔ allE a ∧ allE b
  | [], b => by simp [allE]
  | p :: a, b => by simp only [List.cons_append, allE, allE_append (a := a)]; exact and_assoc.symm
structure SubOk (n0 : Nat) (ls : List Nat) (len : Nat) (vals : List AV) (h : List (Nat × Blk)) (J : JSt) : Prop where
  slots : J.live.map (·.1) = ls
  len : len = J.len
  eqs : ∃ ps, subE n0 vals h J = some ps ∧ allE ps

/-- Where the pattern's blocks lie. -/
def liftL (l : Loc) : Loc := { l with nil := false, nb := none, foot := fun k => k = l.blk }
def zOf : Option Blk → Nat
  | some (.rowz _ _ ks _ _) => ks.length
  | some (.frz ks _ _) => ks.length
  | _ => 0
def locP (Q : List Pr) (hJ : List (Nat × Blk)) (r : Nat → Loc) (i : Nat) : Loc := match findP Q i with
  | some ⟨_, s, .same⟩ => r s
  | some ⟨_, s, .lift⟩ => liftL (r s)
  | some ⟨_, _, .ghost⟩ => Loc.none (zOf (look hJ i))
  | none => r i
theorem isP_den {Q : List Pr} {hJ : List (Nat × Blk)} {p s : Nat} (h : isP Q p s = true) (r : Nat → Loc) : (locP Q hJ r p).blk = (r s).blk ∧ (locP Q hJ r p).off = (r s).off ∧ (locP Q hJ r p).esz = (r s).esz ∧ (locP Q hJ r p).cap = (r s).cap := by
  unfold isP at h
  unfold locP
  split at h
  · rename_i s' he
    rw [he]
    have := Nat.eq_of_beq_eq_true h
    subst this
    exact ⟨rfl, rfl, rfl, rfl⟩
  · rename_i s' he
    rw [he]
    have := Nat.eq_of_beq_eq_true h
    subst this
    exact ⟨rfl, rfl, rfl, rfl⟩
  · cases h
theorem isLift_den {Q : List Pr} {hJ : List (Nat × Blk)} {p s : Nat} (h : isLift Q p s = true) (r : Nat → Loc) : locP Q hJ r p = liftL (r s) := by
  unfold isLift at h
  unfold locP
  split at h
  · rename_i s' he
    rw [he]
    have := Nat.eq_of_beq_eq_true h
    subst this; rfl
  · cases h
theorem isSame_den {Q : List Pr} {hJ : List (Nat × Blk)} {p s : Nat} (h : isSame Q p s = true) (r : Nat → Loc) : locP Q hJ r p = r s := by
  unfold isSame at h
  unfold locP
  split at h
  · rename_i s' he
    rw [he]
    have := Nat.eq_of_beq_eq_true h
    subst this; rfl
  · cases h
theorem isGhost_den {Q : List Pr} {hJ : List (Nat × Blk)} {p : Nat} (h : isGhost Q p = true) (r : Nat → Loc) : ∃ z, locP Q hJ r p = Loc.none z := by
  unfold isGhost at h
  unfold locP
  split at h
  · rename_i he
    rw [he]
    exact ⟨_, rfl⟩
  · cases h
mutual
theorem eqV_den {Q : List Pr} {hJ : List (Nat × Blk)} (r : Nat → Loc) : ∀ (v v' : AV) (ps : List Prop), eqV Q v v' = some ps → allE ps → v.den r = v'.den (locP Q hJ r) := by
  intro v v' ps h ha
  cases v <;> cases v' <;> simp only [eqV] at h <;> (try (cases h; done)) <;> (try (split at h <;> (try (cases h; done)))) <;> (try (simp only [Option.some.injEq] at h; subst h)) <;> (try simp only [allE, and_true] at ha)
  · rename_i hk; have hk := beq_iff_eq.1 hk; subst hk; rw [AV.den, AV.den, ha]
  · rw [AV.den, AV.den, ha]
  · rename_i hk; obtain ⟨h1, h2, h3, h4⟩ := isP_den (hJ := hJ) hk r; rw [AV.den, AV.den, h1, h2, h3, ha.1, ha.2]
  · rw [AV.den, AV.den, ha]
  · rfl
  · rename_i hk; obtain ⟨h1, h2, h3, h4⟩ := isP_den (hJ := hJ) hk r; rw [AV.den, AV.den, h1, h2, h3, h4, ha.1, ha.2.1, ha.2.2]
  · rename_i hk; have h1 := isLift_den (hJ := hJ) hk r; simp only [AV.den]; rw [h1, ha.1, ha.2.1, ha.2.2]; rfl
  · rfl
  · rename_i hk; obtain ⟨z, h1⟩ := isGhost_den (hJ := hJ) hk r; simp only [AV.den]; rw [h1, ha]; rfl
  · rename_i hk; have h1 := isSame_den (hJ := hJ) hk r; simp only [AV.den]; rw [h1, ha.1, ha.2.1, ha.2.2]
  · rename_i hk; obtain ⟨h1, h2, h3, h4⟩ := isP_den (hJ := hJ) hk r; rw [AV.den, AV.den, h1]
  · rename_i hk; obtain ⟨h1, h2, h3, h4⟩ := isP_den (hJ := hJ) hk r; rw [AV.den, AV.den, h1]
  · rfl
  · rename_i hl; simp only [AV.den]; rw [ha.1, eqL_den r _ _ _ hl ha.2]
  · rfl
  · rename_i hl; simp only [AV.den]; rw [ha.1, eqV_den r _ _ _ hl ha.2]
  · rfl
  · rw [AV.den, AV.den, ha]
  · simp only [AV.den]; rw [eqL_den r _ _ _ h ha]
  · simp only [AV.den]; rw [eqL_den r _ _ _ h ha]
  · rw [AV.den, AV.den, ha]
theorem eqL_den {Q : List Pr} {hJ : List (Nat × Blk)} (r : Nat → Loc) : ∀ (l l' : List AV) (ps : List Prop), eqL Q l l' = some ps → allE ps → AV.denL r l = AV.denL (locP Q hJ r) l'
  | [], [], _, _, _ => rfl
  | [], _ :: _, _, h, _ => by simp [eqL] at h
  | _ :: _, [], _, h, _ => by simp [eqL] at h
  | v :: l, v' :: l', ps, h, ha => by
    simp only [eqL] at h
    split at h <;> (try (cases h; done))
    rename_i p1 p2 h1 h2
    simp only [Option.some.injEq] at h; subst h
    obtain ⟨a1, a2⟩ := allE_append.1 ha
    simp only [AV.denL]
    rw [eqV_den r _ _ _ h1 a1, eqL_den r _ _ _ h2 a2]
end
end Go.SX
