/- A function gone into with loops told ahead. -/
import Derived.Test.YtdaanchagjamfaaNpx
namespace Go.SX
open Go Go.RowKit Go.Proofs.Ytdaanchagjamfaa
def withCall (E : Env) (H : Hnd) (f n0 : Nat) (Hf : Hnd) : Hnd := { H with call := fun g args hp nid K => match Nat.beq g f && Nat.beq nid n0 with
  | true => (match E.P.funcs[g]? with
    | some fn => (match goFn E.P g with
      | true => inFn E Hf fn args hp nid K
      | false => .fail "no function of the program")
    | none => .fail "no such function")
  | false => H.call g args hp nid K }
theorem withCall_ok {E : Env} (hE : E.Sound) {G : Ctx} {H : Hnd} {c : Code} (h : HndOk E G H c) {f n0 : Nat} {Hf : Hnd} (hl : ∀ fn c', E.P.funcs[f]? = some fn → fn.body = some c' → ∀ G' : Ctx, G'.rd = none → G'.n = n0 → HndOk E G' Hf c') : HndOk E G (withCall E H f n0 Hf) c := by
  refine ⟨h.loop, fun g args hp nid K T r w hn hH hs hd => ?_, h.yield⟩
  simp only [withCall] at hd
  split at hd
  · rename_i hc
    rw [Bool.and_eq_true] at hc
    have e1 := Nat.eq_of_beq_eq_true hc.1
    have e2 := Nat.eq_of_beq_eq_true hc.2
    subst e1 e2
    split at hd
    · rename_i fn hf
      split at hd
      · rename_i hgo
        refine ⟨hgo, ?_⟩
        have hb : ∃ c, fn.body = some c := by
          cases hb : fn.body with
          | none => simp only [inFn, hb] at hd; exact hd.elim
          | some c => exact ⟨c, rfl⟩
        obtain ⟨c', hb⟩ := hb
        have := fn_calls hE hf hb (G := ⟨G.w, G.ch, nid, r, none⟩) (hl fn c' hf hb _ rfl rfl) rfl hH.call hs hd
        refine this.mono ?_
        rintro e w' ⟨v, h', nid', r', hK, rfl, hle, hI, hv⟩
        exact ⟨v, _, nid', r', hK, rfl, hle, hI.ext, HInv.back hn hH hI, hv⟩
      · exact hd.elim
    · exact hd.elim
  · exact h.call g args hp nid K T r w hn hH hs hd
/-- What is new is only read from now on. -/
def roFC (fc : FC) : FC := fun args nid all => ((fc args nid all).1, fun blks => match (fc args nid all).2 blks with
  | some e => some ⟨e.known, e.pre, e.val, e.upd.map fun q => match inR nid q.1 with | true => (q.1, q.2.ro) | false => q⟩
  | none => none)
theorem roFC_ok {P : Program} {f : FuncId} {fc : FC} (h : FSound P f fc) : FSound P f (roFC fc) := by
  refine ⟨h.1, fun args nid all r w lk blks eff hH ha hv he hp => ?_⟩
  simp only [roFC] at hv he
  split at he <;> (try (cases he; done))
  rename_i e h0
  simp only [Option.some.injEq] at he; subst he
  refine (h.2 args nid all r w lk blks e hH ha hv h0 hp).mono ?_
  rintro e' w' ⟨r', rfl, hpost⟩
  refine ⟨r', rfl, ?_⟩
  have mem : ∀ p, p ∈ e.upd.map (fun q => match inR nid q.1 with | true => (q.1, q.2.ro) | false => q) → ∃ q ∈ e.upd, p.1 = q.1 ∧ ((inR nid q.1 = true ∧ p.2 = q.2.ro) ∨ (inR nid q.1 = false ∧ p.2 = q.2)) := by
    intro p hp
    obtain ⟨q, hq, rfl⟩ := List.mem_map.1 hp
    refine ⟨q, hq, ?_⟩
    cases hi : inR nid q.1 with
    | true => exact ⟨rfl, .inl ⟨rfl, rfl⟩⟩
    | false => exact ⟨rfl, .inr ⟨rfl, rfl⟩⟩
  have mem' : ∀ q ∈ e.upd, inR nid q.1 = false → q ∈ e.upd.map (fun q => match inR nid q.1 with | true => (q.1, q.2.ro) | false => q) := by
    intro q hq hi
    refine List.mem_map.2 ⟨q, hq, ?_⟩
    rw [hi]
  refine ⟨hpost.same, fun p hp => ?_, ⟨hpost.fr.os, hpost.fr.tape, hpost.fr.output, hpost.fr.size, fun k hk hc => hpost.fr.block k hk ?_⟩, fun p hp hin hl k hk => ?_, fun p hp hin hl k hk => ?_, fun p hp q hq hin hin' hne ho hl k hk hk' => ?_⟩
  · obtain ⟨q, hq, h1, ⟨_, h2⟩ | ⟨_, h2⟩⟩ := mem p hp
    · rw [h1, h2]; exact (hpost.rep q hq).ro
    · rw [h1, h2]; exact hpost.rep q hq
  · rintro ⟨q, hq, hin, b, h1, h2⟩
    exact hc ⟨q, mem' q hq hin, hin, b, h1, h2⟩
  · obtain ⟨q, hq, h1, ⟨hi, h2⟩ | ⟨hi, h2⟩⟩ := mem p hp
    · have hlq : q.2.live = true := by rw [h2, Blk.live_ro] at hl; exact hl
      have hk' : Foot r' q.1 q.2 k := by rw [h1, h2] at hk; exact foot_roU.1 hk
      rcases hpost.new q hq hi hlq k hk' with h3 | ⟨z, hz, h4, h5, h6⟩ | ⟨hno, h7⟩
      · exact .inl h3
      · refine .inr (.inl ⟨z, mem' z hz h4, h4, fun y hy he => ?_, h6⟩)
        obtain ⟨y', hy', g1, ⟨gi, g2⟩ | ⟨gi, g2⟩⟩ := mem y hy
        · rw [← g1, he, h4] at gi; cases gi
        · rw [g2]; exact h5 y' hy' (by rw [← g1]; exact he)
      · have _ := hno
        refine .inr (.inr ⟨?_, h7⟩)
        rw [h2]
        cases ho : q.2.ro.own with
        | false => rfl
        | true =>
          have e1 := Blk.own_ro _ ho
          rw [e1, hno] at ho; cases ho
    · rw [h1, hi] at hin; cases hin
  · obtain ⟨q, hq, h1, ⟨hi, h2⟩ | ⟨hi, h2⟩⟩ := mem p hp
    · rw [h1, hi] at hin; cases hin
    · rw [h1] at hin hk ⊢
      rw [h2] at hl hk
      exact hpost.stay q hq hin hl k hk
  · obtain ⟨p', hp', h1, hor⟩ := mem p hp
    obtain ⟨q', hq', g1, hor'⟩ := mem q hq
    have hpi : inR nid p'.1 = true := by rw [← h1]; exact hin
    have hqi : inR nid q'.1 = true := by rw [← g1]; exact hin'
    have h2 : p.2 = p'.2.ro := by
      rcases hor with ⟨_, h⟩ | ⟨h, _⟩
      · exact h
      · rw [hpi] at h; cases h
    have g2 : q.2 = q'.2.ro := by
      rcases hor' with ⟨_, h⟩ | ⟨h, _⟩
      · exact h
      · rw [hqi] at h; cases h
    rw [h2] at ho hk
    rw [g2] at hl hk'
    have e1 := Blk.own_ro _ ho
    rw [e1] at ho
    refine hpost.apart p' hp' q' hq' hpi hqi (by rw [← h1, ← g1]; exact hne) ho (by rw [← Blk.live_ro]; exact hl) k ?_ ?_
    · rw [h1] at hk; exact foot_roU.1 hk
    · rw [g1] at hk'; exact foot_roU.1 hk'
end Go.SX
