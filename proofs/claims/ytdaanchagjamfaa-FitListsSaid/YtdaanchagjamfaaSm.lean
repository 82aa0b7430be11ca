/- Contracts of functions that hang on their arguments alone, and loops that are gone through round by round. -/
import Derived.Test.YtdaanchagjamfaaSs
namespace Go.SX
open Go Go.RowKit Go.Proofs.Ytdaanchagjamfaa

mutual
def AV.known : AV → Bool
  | .int c _ _ => c
  | .bool c _ => c
  | .slice c _ _ _ _ => c
  | .fn _ cap => AV.knownL cap
  | .ifc _ v => v.known
  | .opt .. => false
  | .slz .. => false
  | .agg l => AV.knownL l
  | .tup l => AV.knownL l
  | _ => true
def AV.knownL : List AV → Bool
  | [] => true
  | v :: l => v.known && AV.knownL l
end
mutual
def AV.setK (c : Bool) : AV → AV
  | .int _ k n => .int c k n
  | .bool _ b => .bool c b
  | .slice _ id e n cap => .slice c id e n cap
  | .ifc t v => .ifc t (v.setK c)
  | .agg l => .agg (AV.setKL c l)
  | .tup l => .tup (AV.setKL c l)
  | v => v
def AV.setKL (c : Bool) : List AV → List AV
  | [] => []
  | v :: l => v.setK c :: AV.setKL c l
end
mutual
theorem den_setK (r : Nat → Loc) (c : Bool) : ∀ v : AV, (v.setK c).den r = v.den r
  | .int .. | .bool .. | .slice .. | .slz .. | .ptr .. | .addr .. | .nilp | .nils | .map .. | .yld .. | .nilm | .fn .. | .nilf | .nili | .str .. | .raw .. | .opt .. => rfl
  | .ifc t v => by simp only [AV.setK, AV.den]; rw [den_setK r c v]
  | .agg l => by simp only [AV.setK, AV.den]; rw [den_setKL r c l]
  | .tup l => by simp only [AV.setK, AV.den]; rw [den_setKL r c l]
theorem den_setKL (r : Nat → Loc) (c : Bool) : ∀ l : List AV, AV.denL r (AV.setKL c l) = AV.denL r l
  | [] => rfl
  | v :: l => by simp only [AV.setKL, AV.denL]; rw [den_setK r c v, den_setKL r c l]
end

/-- A function of its arguments alone: the condition, the value. -/
abbrev PF := List AV → Option (Bool × AV)
def pureFC (F : PF) : FC := fun args _ _ => ([], fun _ => match F args with
  | some (p, v) => match AV.knownL args with
    | true => some ⟨true, p, v.setK true, []⟩
    | false => some ⟨false, p, v.setK false, []⟩
  | none => none)

theorem fn_pure {E : Env} (hE : E.Sound) {H : Hnd} {f : FuncId} {fn : Func} {c : Code} (hf : E.P.funcs[f]? = some fn) (hb : fn.body = some c) (hgo : goFn E.P f = true) (hl : ∀ G, G.n = 0 → G.rd = none → HndOk E G H c) {F : PF}
    (hF : ∀ args v, F args = some (true, v) → ∃ args', (∀ r, AV.denL r args' = AV.denL r args) ∧ AV.allL (fun _ => false) args' = true ∧ (execFn E H false fn args' [] 0).den fun u _ => ∀ r r', u.den r' = v.den r) : FSound E.P f (pureFC F) := by
  refine ⟨hgo, fun args nid all r w lk blks eff _ _ _ he hp => ?_⟩
  have : ∃ v, F args = some (true, v) ∧ eff.upd = [] ∧ ∀ r, eff.val.den r = v.den r := by
    simp only [pureFC] at he
    split at he <;> (try (cases he; done))
    rename_i p v hFa
    split at he <;> simp only [Option.some.injEq] at he <;> subst he <;> simp only at hp <;> subst hp <;> exact ⟨v, hFa, rfl, fun r => den_setK r _ v⟩
  obtain ⟨v, hFa, hu, hv⟩ := this
  obtain ⟨args', h1, h2, h3⟩ := hF args v hFa
  have := fn_calls hE hf hb (G := ⟨w, fun _ => False, 0, r, none⟩) (hl _ rfl rfl) (args := args') (hp := []) (nid := 0) (r := r) (w := w) rfl ⟨by simp [look], by simp [look], by simp, Fr.refl _ _, by simp [look], by simp [look], by simp [look]⟩ (allL_mono (fun _ h => by cases h) _ h2) h3
  rw [← h1 r]
  refine this.mono fun e w' ⟨u, h', nid', r', hT, he, _, hI, _⟩ => ⟨r, by rw [he, hT r r', hv r], ?_⟩
  rw [hu]
  exact ⟨fun _ _ => rfl, by simp, ⟨hI.fr.os, hI.fr.tape, hI.fr.output, hI.fr.size, fun k hk _ => hI.fr.block k hk (by simp)⟩, by simp, by simp, by simp⟩

end Go.SX
