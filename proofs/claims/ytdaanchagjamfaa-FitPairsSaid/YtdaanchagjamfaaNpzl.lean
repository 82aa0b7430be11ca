/- From a contract to a law's statement: arguments without references. -/
import Derived.Test.YtdaanchagjamfaaRows
import Derived.Test.YtdaanchagjamfaaNpm
import Derived.WalkKit
import Derived.ProofKit
import Derived.OpenShut
namespace Go.SX
open Go Go.RowKit Go.ChangeShapes Go.WideShapes Go.ChangeAt Go.Proofs.Ytdaanchagjamfaa

theorem fr_kept {w w' : World} (h : Fr w w' (fun _ => False)) (may : MemPlace → Prop) : w.keptBut w' may := by
  refine ⟨h.os, h.output, fun i hi => ?_⟩
  have := h.block i hi (fun h => h)
  unfold bk at this
  rw [this]
  split
  · rename_i c t fr c' t' fr' h1 h2
    rw [h1] at h2
    simp only [Option.some.injEq, Obj.cells.injEq] at h2
    obtain ⟨rfl, rfl, rfl⟩ := h2
    exact ⟨rfl, rfl, rfl, fun _ _ => rfl⟩
  · rename_i es cl es' cl' h1 h2
    rw [h1] at h2
    simp only [Option.some.injEq, Obj.map.injEq] at h2
    exact .inr ⟨h2.1.symm, h2.2.symm⟩
  · rfl
/-- A contract, called from outside. -/
theorem law_calls {P : Program} {f : FuncId} {α : Type} [EncL α] {F : α → Bool × AV} (h : FSound P f (pureFC (pfOf F))) {x : α} {v : AV} {u : Value} (hd : EncL.dec (EncL.enc x) = some x) (hF : F x = (true, v)) (hv : ∀ r, v.den r = u) (r : Nat → Loc) (w : World) :
    Calls P f (AV.denL r (EncL.enc x)).toArray w fun e w' => e = .returned u ∧ Fr w w' (fun _ => False) := by
  have key : ∃ eff, (pureFC (pfOf F) (EncL.enc x) 0 []).2 [] = some eff ∧ eff.pre = true ∧ eff.upd = [] ∧ ∀ r, eff.val.den r = u := by
    simp only [pureFC, pfOf, hd, hF]
    split <;> exact ⟨_, rfl, rfl, rfl, fun r => (den_setK r _ v).trans (hv r)⟩
  obtain ⟨eff, h1, h2, h3, h4⟩ := key
  have := h.2 (EncL.enc x) 0 [] r w (fun _ => none) [] eff ⟨by simp, by simp, by simp, by simp⟩ (allL_mono (p := fun _ => false) (fun _ h => by cases h) _ (EncL.ok _ _ hd).2) rfl h1 h2
  refine this.mono ?_
  rintro e w' ⟨r', rfl, hp⟩
  refine ⟨by rw [h4], hp.fr.os, hp.fr.tape, hp.fr.output, hp.fr.size, fun k hk _ => hp.fr.block k hk ?_⟩
  rintro ⟨p, hm, _⟩
  rw [h3] at hm; cases hm

/-- A type without references. -/
def flatB (P : Program) : Nat → TypeId → Bool
  | 0, _ => false
  | n + 1, t => match P.underlying t with
    | some .bool => true
    | some (.int _) => true
    | some (.struct fs) => fs.toList.all fun f => flatB P n f.type
    | some (.array _ e) => flatB P n e
    | _ => false
theorem flat_trod {H : Type} {enc : TypeId × Value → H} {P : Program} {w w' : World} {b b' : Nat} {sp sp' : Nat → Bool} {hd hd' : Bool} : ∀ (n : Nat) (t : TypeId), flatB P n t = true → ∀ fuel cs, DataW.trod enc P w b sp hd fuel t cs = DataW.trod enc P w' b' sp' hd' fuel t cs
  | 0, t, h, _, _ => by cases h
  | n + 1, t, h, 0, cs => rfl
  | n + 1, t, h, fuel + 1, cs => by
    unfold flatB at h
    split at h
    · rename_i ht; unfold DataW.trod; simp only [ht]
      rcases cs with _ | ⟨c, _ | ⟨d, l⟩⟩ <;> (try rfl)
      all_goals (cases c <;> rfl)
    · rename_i ht; unfold DataW.trod; simp only [ht]
      rcases cs with _ | ⟨c, _ | ⟨d, l⟩⟩ <;> (try rfl)
      all_goals (cases c <;> rfl)
    · rename_i fs ht
      unfold DataW.trod; simp only [ht]
      rw [List.all_eq_true] at h
      have : ∀ l : List Field, (∀ f ∈ l, f ∈ fs.toList) → l.mapM (fun f => DataW.trod enc P w b sp hd fuel f.type ((cs.drop f.offset).take (P.cellsOf f.type))) = l.mapM (fun f => DataW.trod enc P w' b' sp' hd' fuel f.type ((cs.drop f.offset).take (P.cellsOf f.type))) := by
        intro l
        induction l with
        | nil => intro _; rfl
        | cons f l ih =>
          intro hl
          rw [List.mapM_cons, List.mapM_cons, ih fun g hg => hl g (by simp [hg]), flat_trod n f.type (h f (hl f (by simp))) fuel]
      rw [this fs.toList fun _ hf => hf]
    · rename_i m e ht
      unfold DataW.trod; simp only [ht]
      have : ∀ l : List Nat, l.mapM (fun i => DataW.trod enc P w b sp hd fuel e ((cs.drop (i * P.cellsOf e)).take (P.cellsOf e))) = l.mapM (fun i => DataW.trod enc P w' b' sp' hd' fuel e ((cs.drop (i * P.cellsOf e)).take (P.cellsOf e))) := by
        intro l
        induction l with
        | nil => rfl
        | cons i l ih => rw [List.mapM_cons, List.mapM_cons, ih, flat_trod n e h fuel]
      rw [this]
    · cases h
theorem flat_all {H : Type} {enc : TypeId × Value → H} {P : Program} {w w' : World} {b b' : Nat} {sp sp' : Nat → Bool} {hd hd' : Bool} {n : Nat} : ∀ (ts : List TypeId) (vs : List Value) (ds : List (DataW H)) (ps : List MemPlace), ts.all (flatB P n) = true → DataW.TrodAll enc P w b sp hd ts vs ds ps → DataW.TrodAll enc P w' b' sp' hd' ts vs ds ps
  | [], [], [], _, _, h => h
  | t :: ts, v :: vs, d :: ds, ps, hf, h => by
    simp only [List.all_cons, Bool.and_eq_true] at hf
    obtain ⟨p, q, ⟨fuel, h1⟩, h2, h3⟩ := h
    exact ⟨p, q, ⟨fuel, by rw [← flat_trod (w := w) (b := b) (sp := sp) (hd := hd) n t hf.1 fuel]; exact h1⟩, flat_all ts vs ds q hf.2 h2, h3⟩
  | [], [], _ :: _, _, _, h => h.elim
  | [], _ :: _, _, _, _, h => h.elim
  | _ :: _, [], _, _, _, h => h.elim
  | _ :: _, _ :: _, [], _, _, h => h.elim
theorem trodAll_len {H : Type} {enc : TypeId × Value → H} {P : Program} {w : World} {b : Nat} {sp : Nat → Bool} {hd : Bool} : ∀ (ts : List TypeId) (vs : List Value) (ds : List (DataW H)) (ps : List MemPlace), DataW.TrodAll enc P w b sp hd ts vs ds ps → vs.length = ts.length ∧ ds.length = ts.length
  | [], [], [], _, _ => ⟨rfl, rfl⟩
  | t :: ts, v :: vs, d :: ds, ps, h => by
    obtain ⟨p, q, _, h2, _⟩ := h
    have := trodAll_len ts vs ds q h2
    exact ⟨by simp [this.1], by simp [this.2]⟩
  | [], [], _ :: _, _, h => h.elim
  | [], _ :: _, _, _, h => h.elim
  | _ :: _, [], _, _, h => h.elim
  | _ :: _, _ :: _, [], _, h => h.elim

/-- Behind a call that changes nothing; the row asks nothing 'again'. -/
theorem post_plain {H : Type} {enc : TypeId × Value → H} {P : Program} {f : Func} {s : ChangeSpec} {apart fresh handsOn : Bool} {W W' : World} {args : Array Value} {v : Value} {ds gs : List (DataW H)} {before pa pv : List MemPlace}
    (hW : DataW.Whole enc P f.params.toList s.vars apart W args.toList ds gs before)
    (hres : ∀ (b : Nat) (sp : Nat → Bool) (hd : Bool), DataW.TrodAll enc P W' b sp hd f.resultTypes.toList (v.resultList f.resultTypes.size) (s.fn H (ds ++ gs)).results [])
    (hargs : ∀ sp : Nat → Bool, (∀ p ∈ before, sp p.block = true) → DataW.TrodAll enc P W' 0 sp true f.params.toList args.toList (s.fn H (ds ++ gs)).args pa)
    (hvars : ∀ sp : Nat → Bool, (∀ p ∈ before, sp p.block = true) → DataW.TrodVars enc P W' sp s.vars (s.fn H (ds ++ gs)).vars pv)
    (hk : Fr W W' (fun _ => False)) :
    s.post enc P f apart fresh handsOn false W args v W' := by
  have hold : ∀ p ∈ before, (fun b => decide (b < W.heap.size)) p.block = true := fun p hp => by simpa using hW.lt p hp
  exact ⟨ds, gs, before, [], pa, pv, hW, hres _ _ _, hargs _ hold, hvars _ hold, fr_kept hk _, fun h => by cases h⟩

/-- A value of a struct of numbers of one kind. -/
theorem okWide_ints {P : Program} {w : World} {r : Reach} {base : Nat} {t : TypeId} {v : Value} {fs : Array Field} {k : IntKind} {ts : List TypeId} (ht : P.underlying t = some (.struct fs)) (hc : P.cellTypes P.depth t = some ts) (hk : ts.all (fun u => match P.underlying u with | some (.int k') => k' == k | _ => false) = true) (hn : P.cellsOf t = ts.length) (h : Value.okWide P w r base t v) :
    ∃ ns : List Int, ns.length = ts.length ∧ v = .agg (ns.map (Value.int k)).toArray := by
  unfold Value.okWide at h
  simp only [ht] at h
  obtain ⟨cs, rfl, hsz, ts', hc', _, hall⟩ := h
  rw [hc] at hc'
  simp only [Option.some.injEq] at hc'; subst hc'
  have key : ∀ (l : List Value), (∀ v ∈ l, ∃ n, v = Value.int k n) → ∃ ns : List Int, l = ns.map (Value.int k) := by
    intro l
    induction l with
    | nil => intro _; exact ⟨[], rfl⟩
    | cons v l ih =>
      intro h
      obtain ⟨n, rfl⟩ := h v (by simp)
      obtain ⟨ns, rfl⟩ := ih fun u hu => h u (by simp [hu])
      exact ⟨n :: ns, rfl⟩
  obtain ⟨ns, hns⟩ := key cs.toList (by
    intro v hv
    obtain ⟨i, hi⟩ := List.getElem?_of_mem hv
    obtain ⟨u, hu, hok⟩ := hall i v (by simpa using hi)
    have := List.all_eq_true.1 hk u (List.mem_of_getElem? hu)
    split at this <;> (try (cases this; done))
    rename_i k' hu'
    have hk' : k' = k := by simpa using this
    subst hk'
    exact okWide_int hu' (by unfold Value.okWide; simp only [hu']; exact hok))
  refine ⟨ns, ?_, ?_⟩
  · have : cs.toList.length = ns.length := by rw [hns]; simp
    simp at this; omega
  · rw [← hns]
end Go.SX
