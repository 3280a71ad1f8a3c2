/- The copy check of a strings.Builder in this program, and its contract in the abstract machine. -/
import Derived.Test.YtlldjadlhgonbaaGreatProg
import Derived.KernelRfl
import Derived.WalkKit
import Derived.Lib.Builder
import Derived.Laws.Externs
import Derived.Test.YtlldjadlhgonbaaGreatDenK
import Derived.Test.YtlldjadlhgonbaaGreatDenE
set_option linter.unusedVariables false
set_option linter.unusedSimpArgs false
set_option linter.unusedVariables false
namespace Den
open Go Go.RowKit Go.Proofs
theorem bldSize : (Tryz.prog.info? 257).map (·.size) = some 2 := by kernel_rfl
theorem bldLies : liesAt Tryz.prog Tryz.prog.depth 257 (2 / Tryz.prog.cellsOf 257) 0 257 1 = true := by kernel_rfl
set_option maxHeartbeats 1000000 in
set_option maxRecDepth 100000 in
theorem copy_used (b : Nat) (w : World) (h0 : w.cell? ⟨b, 0, none⟩ = some (.pointer (some ⟨b, 0, none⟩))) :
    Calls Tryz.prog 182 #[.pointer (some ⟨b, 0, none⟩)] w fun e w' => e = .returned (.tuple #[]) ∧ w' = w := by
  obtain ⟨j, hj, _⟩ := Option.map_eq_some_iff.1 bldSize
  go_enter Tryz.func182, Tryz.ntmps182
  go_wp2
  rw [Lib.run_neq_ptr_same w _ Tryz.underlying255 hj]
  go_wp2
  go_end0
  exact ⟨rfl, rfl⟩
set_option maxHeartbeats 1000000 in
set_option maxRecDepth 100000 in
theorem copy_fresh (b : Nat) (w : World) (h0 : w.cell? ⟨b, 0, none⟩ = some (.pointer none)) (hsh : w.shape? b = some (257, 2)) (hfz : w.frozen? ⟨b, 0, none⟩ = false) :
    Calls Tryz.prog 182 #[.pointer (some ⟨b, 0, none⟩)] w fun e w' => e = .returned (.tuple #[]) ∧ w' = w.setCell ⟨b, 0, none⟩ (.pointer (some ⟨b, 0, none⟩)) := by
  obtain ⟨j, hj, hjs⟩ := Option.map_eq_some_iff.1 bldSize
  go_enter Tryz.func182, Tryz.ntmps182
  go_wp2
  rw [Lib.run_to_unsafe w ⟨b, 0, none⟩ Tryz.underlying255 Tryz.underlying370 hj (by rw [hjs]; decide) hsh (Nat.zero_lt_succ 1)]
  simp only [Result.andThen]
  rw [Oper.upon_value]
  go_wp2
  rw [run_callFunc_extern Tryz.func231 (by kernel_rfl) (by kernel_rfl) (by kernel_rfl) (e := Extern.AbiNoEscape.same) (by kernel_rfl)]
  rw [Lib.run_noEscape]
  simp only [Result.andThen]
  rw [Oper.upon_value]
  go_wp2
  rw [Lib.run_from_unsafe w ⟨b, 0, none⟩ Tryz.underlying370 Tryz.underlying255 hj hsh bldLies]
  simp only [Result.andThen]
  rw [Oper.upon_value]
  go_wp2
  go_end0
  exact ⟨rfl, rfl⟩
end Den

set_option autoImplicit false
set_option linter.unusedVariables false
namespace Den
open Go Go.RowKit Go.Proofs
namespace KK
section
variable {ρ : Vl} {w0 : World} {U : TypeId} {B : Nat} {G : Gh} {s s' : St} {w : World}
/-- what the copy check answers -/
theorem isPtr_ok {b : Nat} {v : AV} {y n : R} {x : Ex} {e : Env} {s1 : St} (h : isPtr b v y n .no = .ok x e s1) : (v = .ref (.ptr b 0) ∧ y = .ok x e s1) ∨ (v = .ref .nilptr ∧ n = .ok x e s1) := by
  unfold isPtr at h
  cases v with
  | ref r =>
    cases r with
    | ptr b1 o =>
      cases o with
      | zero =>
        have h' : Bool.rec (motive := fun _ => R) .no y (Nat.beq b b1) = .ok x e s1 := h
        cases hb : Nat.beq b b1
        · rw [hb] at h'; cases h'
        · rw [hb] at h'
          have := Nat.eq_of_beq_eq_true hb
          subst this
          exact .inl ⟨rfl, h'⟩
      | succ o => cases h
    | nilptr => exact .inr ⟨rfl, h⟩
    | _ => cases h
  | _ => cases h
theorem toRC_ok {r : R} {v : AV} {s1 : St} (h : toRC r = .ok v s1) : v = .lst .tup [] ∧ ∃ x e, r = .ok x e s1 := by
  cases r with
  | no => cases h
  | ok x e s => injection h with h1 h2; subst h2; exact ⟨h1.symm, x, e, rfl⟩
theorem copyC_ok {T : Nat} {args : List AV} {v : AV} (h : copyC T args s = .ok v s') : v = .lst .tup [] ∧ ∃ b, args = [.ref (.ptr b 0)] ∧
    ((s' = s ∧ ∃ r, cellsAt s b = some (.ref (.ptr b 0) :: r)) ∨ ∃ c, s.blk.get b = some (.bld T [.ref .nilptr, c]) ∧ s' = setBlk s b (.cells [.ref (.ptr b 0), c])) := by
  obtain ⟨rfl, x, e, h⟩ := toRC_ok h
  refine ⟨rfl, ?_⟩
  cases args with
  | nil => cases h
  | cons a args =>
    cases args with
    | cons _ _ => cases h
    | nil =>
      cases a with
      | ref q =>
        cases q with
        | ptr b o =>
          cases o with
          | succ o => cases h
          | zero =>
            refine ⟨b, rfl, ?_⟩
            have h1 : trGetK s.blk b (fun ob => copyO T b ob s) = .ok x e s' := h
            rw [trGetK_ok] at h1
            cases hg : s.blk.get b with
            | none => rw [hg] at h1; cases h1
            | some ob =>
              rw [hg] at h1
              cases ob with
              | cells cs =>
                left
                cases cs with
                | nil => cases h1
                | cons c r =>
                  have h2 : isPtr b c (.ok .normal .empty s) .no .no = .ok x e s' := h1
                  rcases isPtr_ok h2 with ⟨h3, h4⟩ | ⟨h3, h4⟩
                  · injection h4 with _ _ h5
                    subst h3
                    exact ⟨h5.symm, r, by unfold cellsAt; rw [hg]⟩
                  · cases h4
              | bld t cs =>
                cases cs with
                | nil => cases h1
                | cons c r =>
                  have h2 : isPtr b c (.ok .normal .empty s) (List.rec (motive := fun _ => R) .no (fun _ r1 _ => List.rec (motive := fun _ => R) (Bool.rec (motive := fun _ => R) .no (copyB b (c :: r) s) (Nat.beq t T)) (fun _ _ _ => .no) r1) r) .no = .ok x e s' := h1
                  rcases isPtr_ok h2 with ⟨h3, h4⟩ | ⟨h3, h4⟩
                  · left
                    injection h4 with _ _ h5
                    subst h3
                    exact ⟨h5.symm, r, by unfold cellsAt; rw [hg]⟩
                  · right
                    subst h3
                    cases r with
                    | nil => cases h4
                    | cons c1 r1 =>
                      cases r1 with
                      | cons _ _ => cases h4
                      | nil =>
                        have h5 : Bool.rec (motive := fun _ => R) .no (copyB b [.ref .nilptr, c1] s) (Nat.beq t T) = .ok x e s' := h4
                        cases hb : Nat.beq t T
                        · rw [hb] at h5; cases h5
                        · rw [hb] at h5
                          have := Nat.eq_of_beq_eq_true hb
                          subst this
                          have h6 : setBlkK s b (.cells [.ref (.ptr b 0), c1]) (fun s => .ok .normal .empty s) = .ok x e s' := h5
                          rw [setBlkK_ok] at h6
                          injection h6 with _ _ h7
                          exact ⟨c1, rfl, h7.symm⟩
              | map es cl => cases h1
              | miter _ _ _ _ => cases h1
        | _ => cases h
      | _ => cases h
theorem natF_ok : CallsOK Tryz.prog U ρ B w0 (natC (natF 182 257)) := by
  intro f args s v s' G w rargs h hs ha
  unfold natC natF at h
  cases hf : Nat.beq f 182
  · rw [hf] at h; cases h
  · have := Nat.eq_of_beq_eq_true hf
    subst this
    have h' : copyC 257 args s = .ok v s' := h
    obtain ⟨rfl, b, rfl, hc⟩ := copyC_ok h'
    refine ⟨fun w1 => callFunc_ok Tryz.func182 (by decide) (by rfl) w1, ?_⟩
    cases ha with
    | cons _ u _ us hu ht =>
      cases ht
      cases hu with
      | ptr _ _ rb hb =>
        rcases hc with ⟨rfl, r, hr⟩ | ⟨c, hg, rfl⟩
        · obtain ⟨vs, et, size, k1, k2, k3, k4, k5, k6⟩ := cellsAt_ok hs hr hb
          cases k1 with
          | cons _ q _ qs hq hqs =>
            cases hq with
            | ptr _ _ rb' hb' =>
              rw [hb] at hb'; injection hb' with hb'; subst hb'
              have hcell : w.cell? ⟨rb, 0, none⟩ = some (.pointer (some ⟨rb, 0, none⟩)) := by
                have := k3 0 (.pointer (some ⟨rb, 0, none⟩)) rfl
                simpa using this
              refine (copy_used rb w hcell).mono fun en w' => ?_
              rintro ⟨rfl, rfl⟩
              exact ⟨_, G, rfl, hs, Ext.refl _ _, Nxt.refl _ _, .tup [] [] .nil⟩
        · have hor := hs.blk b _ rb hg hb
          cases hor with
          | bld _ _ _ vs hv h1 hcc hsh hfz =>
            have hcs : cellsAt s b = some [.ref .nilptr, c] := by unfold cellsAt; rw [hg]
            have hset : setAt [.ref .nilptr, c] 0 [.ref (.ptr b 0)] = some [.ref (.ptr b 0), c] := rfl
            have hvl := hv.length
            have hcell : w.cell? ⟨rb, 0, none⟩ = some (.pointer none) := by
              cases hv with
              | cons _ q _ qs hq hqs =>
                cases hq
                have := hcc 0 (.pointer none) rfl
                simpa using this
            have hsh2 : w.shape? rb = some (257, 2) := by rw [hsh, hvl]; rfl
            have hfz0 : w.frozen? ⟨rb, 0, none⟩ = false := hfz 0 (by rw [hvl]; exact Nat.zero_lt_succ 1)
            obtain ⟨q1, q2, q3, q4⟩ := store_ok (P := Tryz.prog) (off := 0) hs hb hcs hset (VRs.cons _ (.pointer (some ⟨rb, 0, none⟩)) _ _ (.ptr b 0 rb hb) .nil) (by intro x hx; simp at hx; subst hx; rfl)
            refine (copy_fresh rb w hcell hsh2 hfz0).mono fun en w' => ?_
            rintro ⟨rfl, rfl⟩
            exact ⟨_, G, rfl, q2, q3, q4, .tup [] [] .nil⟩
end
end KK
end Den
