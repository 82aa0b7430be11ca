/- Trees, node by node. -/
import Derived.Test.YtdaanchagjamfaaSn
namespace Go.SX
open Go

theorem den_need {Q : AV → List (Nat × Blk) → Prop} {b : Bool} {t : Tree} (hb : b = true) (ht : t.den Q) : (Tree.need b t).den Q := ⟨hb, ht⟩
theorem den_bnd {Q : AV → List (Nat × Blk) → Prop} {b : Bool} {f : Bool → Tree} (h : ∀ x, x = b → (f x).den Q) : (Tree.bnd b f).den Q := h
theorem den_bndI {Q : AV → List (Nat × Blk) → Prop} {b : Int} {f : Int → Tree} (h : ∀ x, x = b → (f x).den Q) : (Tree.bndI b f).den Q := h
theorem den_br {Q : AV → List (Nat × Blk) → Prop} {b : Bool} {t e : Tree} (h1 : b = true → t.den Q) (h2 : b = false → e.den Q) : (Tree.br b t e).den Q := ⟨h1, h2⟩
theorem den_ask {Q : AV → List (Nat × Blk) → Prop} {p : Prop} {t : Tree} (hp : p) (ht : t.den Q) : (Tree.ask p t).den Q := ⟨hp, ht⟩
theorem den_asm {Q : AV → List (Nat × Blk) → Prop} {p : Prop} {t : Tree} (ht : p → t.den Q) : (Tree.asm p t).den Q := ht
theorem den_all {Q : AV → List (Nat × Blk) → Prop} {f : (Nat → Value) → Tree} (ht : ∀ g, (f g).den Q) : (Tree.all f).den Q := ht
theorem den_both {Q : AV → List (Nat × Blk) → Prop} {a b : Tree} (h1 : a.den Q) (h2 : b.den Q) : (Tree.both a b).den Q := ⟨h1, h2⟩
/-- What a tree asks for, held together (so that no elaborator unfolds it). -/
structure DenOk (Q : AV → List (Nat × Blk) → Prop) (t : Tree) : Prop where
  den : t.den Q
end Go.SX
