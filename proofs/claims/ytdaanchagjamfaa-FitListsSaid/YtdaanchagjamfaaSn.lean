/- Plain data as abstract values; a function of plain data. -/
import Derived.Test.YtdaanchagjamfaaSm
namespace Go.SX
open Go Go.RowKit Go.Proofs.Ytdaanchagjamfaa

mutual
def AV.same : AV → AV → Prop
  | .int _ k n, .int _ k' n' => k = k' ∧ n = n'
  | .bool _ b, .bool _ b' => b = b'
  | .nilp, .nilp => True
  | .nils, .nils => True
  | .nilm, .nilm => True
  | .nilf, .nilf => True
  | .nili, .nili => True
  | .str s, .str s' => s = s'
  | .ifc t v, .ifc t' v' => t = t' ∧ v.same v'
  | .agg l, .agg l' => AV.sameL l l'
  | .tup l, .tup l' => AV.sameL l l'
  | _, _ => False
def AV.sameL : List AV → List AV → Prop
  | [], [] => True
  | v :: l, v' :: l' => v.same v' ∧ AV.sameL l l'
  | _, _ => False
end
mutual
theorem same_den (r r' : Nat → Loc) : ∀ u v : AV, u.same v → u.den r' = v.den r
  | .int .., v, h => by cases v <;> simp only [AV.same] at h; obtain ⟨rfl, rfl⟩ := h; rfl
  | .bool .., v, h => by cases v <;> simp only [AV.same] at h; subst h; rfl
  | .nilp, v, h => by cases v <;> simp only [AV.same] at h; rfl
  | .nils, v, h => by cases v <;> simp only [AV.same] at h; rfl
  | .nilm, v, h => by cases v <;> simp only [AV.same] at h; rfl
  | .nilf, v, h => by cases v <;> simp only [AV.same] at h; rfl
  | .nili, v, h => by cases v <;> simp only [AV.same] at h; rfl
  | .str .., v, h => by cases v <;> simp only [AV.same] at h; subst h; rfl
  | .ifc t u, v, h => by cases v <;> simp only [AV.same] at h; obtain ⟨rfl, h⟩ := h; simp only [AV.den]; rw [same_den r r' u _ h]
  | .agg l, v, h => by cases v <;> simp only [AV.same] at h; simp only [AV.den]; rw [same_denL r r' l _ h]
  | .tup l, v, h => by cases v <;> simp only [AV.same] at h; simp only [AV.den]; rw [same_denL r r' l _ h]
  | .ptr .., v, h => by cases v <;> simp only [AV.same] at h
  | .addr .., v, h => by cases v <;> simp only [AV.same] at h
  | .slice .., v, h => by cases v <;> simp only [AV.same] at h
  | .map .., v, h => by cases v <;> simp only [AV.same] at h
  | .yld .., v, h => by cases v <;> simp only [AV.same] at h
  | .fn .., v, h => by cases v <;> simp only [AV.same] at h
  | .raw .., v, h => by cases v <;> simp only [AV.same] at h
  | .opt .., v, h => by cases v <;> simp only [AV.same] at h
theorem same_denL (r r' : Nat → Loc) : ∀ u v : List AV, AV.sameL u v → AV.denL r' u = AV.denL r v
  | [], v, h => by cases v <;> simp only [AV.sameL] at h; rfl
  | x :: l, v, h => by
    cases v <;> simp only [AV.sameL] at h
    simp only [AV.denL]; rw [same_den r r' x _ h.1, same_denL r r' l _ h.2]
end

/-- A method, where the value itself is the receiver. -/
def methA (P : Program) (t : TypeId) (name : String) : Option FuncId :=
  match P.info? t, P.underlying t with
  | some i, some u => match i.methods.find? (·.name == name) with
    | some m => match m.path.toList, m.func with
      | [], some (f, pr) => match u, pr with
        | .pointer _, true => some f
        | .pointer _, false => none
        | _, false => some f
        | _, true => none
      | _, _ => none
    | none => none
  | _, _ => none
theorem methA_ok (P : Program) : MSound P (methA P) := by
  intro t name f h v w
  unfold methA at h
  split at h <;> (try (cases h; done))
  rename_i i u hi hu
  split at h <;> (try (cases h; done))
  rename_i m hm
  split at h <;> (try (cases h; done))
  rename_i f' pr hp hf
  rw [show P.types.size + Made.depth = (P.types.size + Made.depth - 1) + 1 by simp [Made.depth]]
  split at h <;> (try (cases h; done)) <;> simp only [Option.some.injEq] at h <;> subst h <;>
    simp [method, typeInfo, hi, hm, hp, hf, follow, receiverAt, run_underlying hu, Place.get]

class Enc (α : Type) where
  enc : α → AV
  dec : AV → Option α
  ok : ∀ v x, dec v = some x → (∀ r, (enc x).den r = v.den r) ∧ (enc x).all (fun _ => false) = true
class EncL (α : Type) where
  enc : α → List AV
  dec : List AV → Option α
  ok : ∀ v x, dec v = some x → (∀ r, AV.denL r (enc x) = AV.denL r v) ∧ AV.allL (fun _ => false) (enc x) = true
instance : Enc Int where
  enc n := .int false .i64 n
  dec | .int _ .i64 n => some n | _ => none
  ok v x h := by
    split at h <;> (try (cases h; done))
    simp only [Option.some.injEq] at h; subst h; exact ⟨fun _ => rfl, rfl⟩
instance : Enc Bool where
  enc b := .bool false b
  dec | .bool _ b => some b | _ => none
  ok v x h := by
    split at h <;> (try (cases h; done))
    simp only [Option.some.injEq] at h; subst h; exact ⟨fun _ => rfl, rfl⟩
instance : EncL Unit where
  enc _ := []
  dec | [] => some () | _ => none
  ok v x h := by
    split at h <;> (try (cases h; done))
    exact ⟨fun _ => rfl, rfl⟩
instance {α β : Type} [Enc α] [EncL β] : EncL (α × β) where
  enc x := Enc.enc x.1 :: EncL.enc x.2
  dec | v :: l => match Enc.dec v, EncL.dec l with
        | some a, some b => some (a, b)
        | _, _ => none
      | _ => none
  ok v x h := by
    split at h <;> (try (cases h; done))
    split at h <;> (try (cases h; done))
    rename_i a b ha hb
    simp only [Option.some.injEq] at h; subst h
    have h1 := Enc.ok _ a ha
    have h2 := EncL.ok _ b hb
    exact ⟨fun r => by simp only [AV.denL]; rw [h1.1 r, h2.1 r], by simp only [AV.allL, h1.2, h2.2]; rfl⟩

theorem Tree.den_mono {Q Q' : AV → List (Nat × Blk) → Prop} (h : ∀ v l, Q v l → Q' v l) : ∀ {t : Tree}, t.den Q → t.den Q'
  | .leaf v l, ht => h v l ht
  | .br _ _ _, ht => ⟨fun hb => Tree.den_mono h (ht.1 hb), fun hb => Tree.den_mono h (ht.2 hb)⟩
  | .need _ _, ht => ⟨ht.1, Tree.den_mono h ht.2⟩
  | .all _, ht => fun g => Tree.den_mono h (ht g)
  | .asm _ _, ht => fun hp => Tree.den_mono h (ht hp)
  | .ask _ _, ht => ⟨ht.1, Tree.den_mono h ht.2⟩
  | .both _ _, ht => ⟨Tree.den_mono h ht.1, Tree.den_mono h ht.2⟩
  | .bnd _ _, ht => fun x hx => Tree.den_mono h (ht x hx)
  | .bndI _ _, ht => fun x hx => Tree.den_mono h (ht x hx)
  | .fail _, ht => ht.elim
theorem den_of {t t' : Tree} {Q : AV → List (Nat × Blk) → Prop} (e : t = t') (h : t'.den Q) : t.den Q := e ▸ h
def pfOf {α : Type} [EncL α] (f : α → Bool × AV) : PF := fun args => match (EncL.dec args : Option α) with
  | some x => some (f x)
  | none => none
theorem fn_plain {E : Env} (hE : E.Sound) {H : Hnd} {f : FuncId} {fn : Func} {c : Code} (hf : E.P.funcs[f]? = some fn) (hb : fn.body = some c) (hgo : goFn E.P f = true) (hl : ∀ G, G.n = 0 → G.rd = none → HndOk E G H c) {α : Type} [EncL α] {F : α → Bool × AV}
    (hF : ∀ x, (F x).1 = true → (execFn E H false fn (EncL.enc x) [] 0).den fun u _ => u.same (F x).2) : FSound E.P f (pureFC (pfOf F)) := by
  refine fn_pure hE hf hb hgo hl fun args v h => ?_
  unfold pfOf at h
  split at h <;> (try (cases h; done))
  rename_i x hx
  simp only [Option.some.injEq] at h
  obtain ⟨h1, h2⟩ := EncL.ok args x hx
  refine ⟨EncL.enc x, h1, h2, ?_⟩
  have := hF x (by rw [h])
  refine Tree.den_mono ?_ this
  intro u _ hs r r'
  rw [h] at hs
  exact same_den r r' _ _ hs
end Go.SX
