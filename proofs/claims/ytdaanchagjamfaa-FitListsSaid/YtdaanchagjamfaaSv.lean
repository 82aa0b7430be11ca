/- Contracts of functions that read blocks of their caller's (captured variables, slices) and hand out plain values. -/
import Derived.Test.YtdaanchagjamfaaSq
namespace Go.SX
open Go Go.RowKit Go.Proofs.Ytdaanchagjamfaa

/-- b is what the caller knows of a block, b' what the function is told of it. -/
def Blk.viewR (q : Nat → Nat) : Blk → Blk → Prop
  | .cellsR z t l, .cellsR z' t' l' => z = z' ∧ t = t' ∧ AV.sameRL q l l'
  | .rowlR _ z l, .arr z' n g => z = z' ∧ n = l.length ∧ l.all (AV.allL fun _ => false) = true ∧ ∀ i, i < n → l[i]? = some (g i)
  | .arr z n g, .arr z' n' g' => z = z' ∧ n = n' ∧ g = g'
  | _, _ => False
theorem flatten_at {l : List (List AV)} {z : Nat} (hz : ∀ x ∈ l, x.length = z) : ∀ {i j : Nat} {x : List AV}, l[i]? = some x → j < z → l.flatten[i * z + j]? = x[j]? := by
  induction l with
  | nil => intro i j x h; simp at h
  | cons y l ih =>
    intro i j x h hj
    have hy := hz y (by simp)
    cases i with
    | zero =>
      simp only [List.getElem?_cons_zero, Option.some.injEq] at h; subst h
      rw [List.flatten_cons, List.getElem?_append_left (by rw [hy]; omega), Nat.zero_mul, Nat.zero_add]
    | succ i =>
      rw [List.flatten_cons, List.getElem?_append_right (by rw [hy, Nat.succ_mul]; omega)]
      have := ih (fun x hx => hz x (by simp [hx])) (i := i) (j := j) (by simpa using h) hj
      rw [← this, hy, Nat.succ_mul]
      congr 1; omega
theorem Blk.viewR_rep {q : Nat → Nat} {r : Nat → Loc} {id : Nat} {w : World} : ∀ {b b' : Blk}, b.viewR q b' → BRep r (q id) w b → BRep (fun i => r (q i)) id w b'
  | .cellsR z t l, b', h, hb => by
    cases b' <;> simp only [Blk.viewR] at h
    obtain ⟨rfl, rfl, h⟩ := h
    simp only [BRep] at hb ⊢
    rw [← sameR_denL r _ _ h]; exact hb
  | .rowlR t z l, b', h, hb => by
    cases b' <;> simp only [Blk.viewR] at h
    obtain ⟨rfl, rfl, ha, hg⟩ := h
    obtain ⟨h1, h2, h3, h4, rest, h5, h6⟩ := hb
    refine ⟨h2, bk_lt h6, fun i hi => ?_⟩
    have hgi := hg i hi
    have hmem := List.mem_of_getElem? hgi
    refine ⟨h3 _ hmem, fun j v hv => ?_⟩
    have hjz : j < z := by have := (List.getElem?_eq_some_iff.1 hv).1; rw [h3 _ hmem] at this; exact this
    have hall := List.all_eq_true.1 ha _ hmem
    have hvm := List.mem_of_getElem? hv
    have hva := allL_mem hall v hvm
    refine ⟨hva, ?_⟩
    have hf := flatten_at h3 hgi hjz
    rw [hv] at hf
    have hoff : (r (q id)).off = 0 := h1
    show w.cell? ⟨(r (q id)).blk, (r (q id)).off + i * z + j, none⟩ = some (v.den fun i => r (q i))
    unfold bk at h6
    rw [hoff, Nat.zero_add]
    have hlt : i * z + j < (AV.denL r l.flatten).length := by
      rw [denL_length]; exact (List.getElem?_eq_some_iff.1 hf).1
    have hcell : w.cell? ⟨(r (q id)).blk, i * z + j, none⟩ = (AV.denL r l.flatten ++ rest).toArray[i * z + j]? := by simp [World.cell?, h6]
    rw [hcell, List.getElem?_toArray, List.getElem?_append_left hlt, denL_map, List.getElem?_map, hf]
    simp only [Option.map_some, Option.some.injEq]
    exact den_congr (p := fun _ => false) (fun _ hf => by cases hf) v hva
  | .arr z n g, b', h, hb => by
    cases b' <;> simp only [Blk.viewR] at h
    obtain ⟨rfl, rfl, rfl⟩ := h
    simp only [BRep] at hb ⊢
    refine ⟨hb.1, hb.2.1, fun i hi => ⟨(hb.2.2 i hi).1, fun j v hv => ?_⟩⟩
    obtain ⟨h1, h2⟩ := (hb.2.2 i hi).2 j v hv
    refine ⟨h1, ?_⟩
    rw [h2, den_congr (p := fun _ => false) (r := r) (r' := fun i => r (q i)) (fun _ hf => by cases hf) _ h1]
  | .cells .., b', h, _ => by cases b' <;> simp only [Blk.viewR] at h
  | .rowl .., b', h, _ => by cases b' <;> simp only [Blk.viewR] at h
  | .gone, b', h, _ => by cases b' <;> simp only [Blk.viewR] at h
  | .lp .., b', h, _ => by cases b' <;> simp only [Blk.viewR] at h
  | .dfr, b', h, _ => by cases b' <;> simp only [Blk.viewR] at h
  | .mp .., b', h, _ => by cases b' <;> simp only [Blk.viewR] at h
def subW (q : Nat → Nat) (h : List (Nat × Blk)) : List (Nat × Blk) → Prop
  | [] => True
  | (id, b) :: l => (∃ b', look h (q id) = some b' ∧ b'.viewR q b) ∧ subW q h l
theorem subW_mem {q : Nat → Nat} {h : List (Nat × Blk)} : ∀ {l : List (Nat × Blk)}, subW q h l → ∀ p ∈ l, ∃ b', look h (q p.1) = some b' ∧ b'.viewR q p.2
  | [], _, p, hp => by cases hp
  | (id, b) :: l, hs, p, hp => by
    simp only [subW] at hs
    rcases List.mem_cons.1 hp with rfl | hp
    · exact hs.1
    · exact subW_mem hs.2 p hp
def viewOk (n : Nat) (args : List AV) (hp : List (Nat × Blk)) : Bool := AV.allL (· < n) args && hp.all fun p => decide (p.1 < n) && p.2.all (· < n) && !p.2.own

/-- What a function reads, and what it comes to. -/
abbrev VF := List AV → List (Nat × Blk) → Option (Bool × AV)
def viewFC (V : VF) : FC := fun args _ all => (all, fun blks => match V args (zipH Blk.ro all blks) with
  | some (p, v) => some ⟨false, p, v.setK false, []⟩
  | none => none)
theorem view_hinv {q : Nat → Nat} {n : Nat} {args' : List AV} {hp' : List (Nat × Blk)} (hs : viewOk n args' hp' = true) {r : Nat → Loc} {w : World} (h : ∀ p ∈ hp', BRep (fun i => r (q i)) p.1 w p.2) :
    HInv ⟨w, fun _ => False, n, fun i => r (q i), none⟩ n (fun i => r (q i)) hp' w ∧ AV.allL (· < n) args' = true := by
  unfold viewOk at hs
  simp only [Bool.and_eq_true, List.all_eq_true, decide_eq_true_eq, Bool.not_eq_true'] at hs
  refine ⟨⟨fun id b hb => h _ (look_memb hb), fun id id' b b' hb _ _ ho => ?_, fun _ _ => rfl, Fr.refl _ _, fun id b hb ho => ?_, fun id b hb => (hs.2 _ (look_memb hb)).1.1, fun id b hb => (hs.2 _ (look_memb hb)).1.2⟩, hs.1⟩
  · rw [(hs.2 _ (look_memb hb)).2] at ho; cases ho
  · rw [(hs.2 _ (look_memb hb)).2] at ho; cases ho
theorem fn_view {E : Env} (hE : E.Sound) {H : Hnd} {f : FuncId} {fn : Func} {c : Code} (hf : E.P.funcs[f]? = some fn) (hb : fn.body = some c) (hgo : goFn E.P f = true) {n : Nat} (hl : ∀ G, G.rd = none → G.n = n → HndOk E G H c) {V : VF}
    (hV : ∀ args hp v, V args hp = some (true, v) → ∃ q args' hp', AV.sameRL q args args' ∧ subW q hp hp' ∧ viewOk n args' hp' = true ∧ (execFn E H false fn args' hp' n).den fun u _ => ∀ r r', u.den r' = v.den r) : FSound E.P f (viewFC V) := by
  refine ⟨hgo, fun args nid all r w lk blks eff hH _ hv he hp => ?_⟩
  simp only [viewFC] at hv he
  split at he <;> (try (cases he; done))
  rename_i p v hVa
  simp only [Option.some.injEq] at he; subst he
  simp only at hp; subst hp
  obtain ⟨q, args', hp', h1, h2, h3, h4⟩ := hV _ _ v hVa
  obtain ⟨hI, ha⟩ := view_hinv (q := q) (r := r) (w := w) h3 (fun p hp => by
    obtain ⟨b', k1, k2⟩ := subW_mem h2 p hp
    obtain ⟨b, k3, k4⟩ := zipH_mem hv _ (look_memb k1)
    have k4 : b' = b.ro := k4
    refine Blk.viewR_rep k2 ?_
    rw [k4]
    exact (hH.rep _ b k3).ro)
  have := fn_calls hE hf hb (G := ⟨w, fun _ => False, n, fun i => r (q i), none⟩) (hl _ rfl rfl) (args := args') (hp := hp') (nid := n) (r := fun i => r (q i)) (w := w) rfl hI ha h4
  rw [← sameR_denL r _ _ h1] at this
  refine this.mono fun e w' ⟨u, h', nid', r', hT, he, _, hI, _⟩ => ⟨r, by rw [he, hT r r']; exact congrArg _ (den_setK r false v).symm, ?_⟩
  exact ⟨fun _ _ => rfl, by simp, ⟨hI.fr.os, hI.fr.tape, hI.fr.output, hI.fr.size, fun k hk _ => hI.fr.block k hk (by simp)⟩, by simp, by simp, by simp⟩
/-- A law, run from what came in. -/
theorem law_run {E : Env} (hE : E.Sound) {H : Hnd} {f : FuncId} {fn : Func} {c : Code} (hf : E.P.funcs[f]? = some fn) (hb : fn.body = some c) (hl : ∀ G, G.rd = none → HndOk E G H c) {n : Nat} {args : List AV} {hp : List (Nat × Blk)} {r : Nat → Loc} {w : World} {u : Value}
    (hs : viewOk n args hp = true) (h : ∀ p ∈ hp, BRep r p.1 w p.2) (ht : (execFn E H false fn args hp n).den fun v _ => ∀ r', v.den r' = u) : Calls E.P f (AV.denL r args).toArray w fun e w' => e = .returned u ∧ Fr w w' (fun _ => False) := by
  obtain ⟨hI, ha⟩ := view_hinv (q := fun i => i) hs h
  refine (fn_calls hE hf hb (G := ⟨w, fun _ => False, n, r, none⟩) (hl _ rfl) (args := args) (hp := hp) (nid := n) (r := r) (w := w) rfl hI ha ht).mono ?_
  rintro e w' ⟨v, h', nid', r', hT, he, _, hI, _⟩
  exact ⟨by rw [he, hT r'], hI.fr⟩

end Go.SX
