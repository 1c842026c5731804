/- The two functions that are told by a contract; the call of MachNil. Conditions: none. -/
import Derived.Test.YtpajdajecfjnnaaGreatNilRun
import Derived.Test.YtpajdajecfjnnaaGreatNilCompA
import Derived.Test.YtpajdajecfjnnaaGreatNilCompB
import Derived.Test.YtpajdajecfjnnaaGreatShelf
import Derived.WalkKit
set_option autoImplicit false
set_option linter.unusedSimpArgs false
set_option linter.unusedVariables false
namespace Go.Ago.Nil
open Go Go.Ago Go.Proofs

theorem read_idle (p q : Value) (w : World) :
    CallsD Tryz.prog 12 #[p, q] .returning w fun e u' w' => e = .returned (.tuple #[]) ∧ u' = .returning ∧ w' = w := by
  refine callsD_of_wpS Tryz.func12 rfl fun c₀ cs hu => ?_
  apply wpS_seq
  apply wpS_region
  simp [wpOpsS, go_sem, recoverD, hu, Tryz.ntmps12, Exit.thenS]
  apply wpS_seq
  apply wpS_region
  simp [wpOpsS, go_sem, recoverD, hu, Tryz.ntmps12, Exit.thenS]
  refine wpS_cond (t := false) (by simp [Act.eval, Array.replicate]) ?_
  simp only [Bool.false_eq_true, if_false]
  refine wpS_of_wp (wp_skip ?_)
  cases c₀
  simp_all [bodyPostS, results, Tryz.results12]


/-- The code of every function of the table is what the program's own code becomes. -/
theorem table_ok : ∀ p ∈ fList, compFunc Tryz.prog true p.1 = some p.2 := by
  unfold fList
  refine List.forall_mem_cons.2 ⟨c3, ?_⟩
  refine List.forall_mem_cons.2 ⟨c4, ?_⟩
  refine List.forall_mem_cons.2 ⟨c5, ?_⟩
  refine List.forall_mem_cons.2 ⟨c6, ?_⟩
  refine List.forall_mem_cons.2 ⟨c7, ?_⟩
  refine List.forall_mem_cons.2 ⟨c8, ?_⟩
  refine List.forall_mem_cons.2 ⟨c9, ?_⟩
  refine List.forall_mem_cons.2 ⟨c10, ?_⟩
  refine List.forall_mem_cons.2 ⟨c11, ?_⟩
  refine List.forall_mem_cons.2 ⟨c13, ?_⟩
  refine List.forall_mem_cons.2 ⟨c14, ?_⟩
  refine List.forall_mem_cons.2 ⟨c15, ?_⟩
  refine List.forall_mem_cons.2 ⟨c16, ?_⟩
  refine List.forall_mem_cons.2 ⟨c17, ?_⟩
  refine List.forall_mem_cons.2 ⟨c18, ?_⟩
  refine List.forall_mem_cons.2 ⟨c19, ?_⟩
  refine List.forall_mem_cons.2 ⟨c20, ?_⟩
  refine List.forall_mem_cons.2 ⟨c21, ?_⟩
  refine List.forall_mem_cons.2 ⟨c22, ?_⟩
  refine List.forall_mem_cons.2 ⟨c23, ?_⟩
  refine List.forall_mem_cons.2 ⟨c24, ?_⟩
  refine List.forall_mem_cons.2 ⟨c25, ?_⟩
  refine List.forall_mem_cons.2 ⟨c26, ?_⟩
  refine List.forall_mem_cons.2 ⟨c27, ?_⟩
  refine List.forall_mem_cons.2 ⟨c28, ?_⟩
  refine List.forall_mem_cons.2 ⟨c29, ?_⟩
  refine List.forall_mem_cons.2 ⟨c30, ?_⟩
  refine List.forall_mem_cons.2 ⟨c31, ?_⟩
  refine List.forall_mem_cons.2 ⟨c32, ?_⟩
  refine List.forall_mem_cons.2 ⟨c33, ?_⟩
  refine List.forall_mem_cons.2 ⟨c34, ?_⟩
  refine List.forall_mem_cons.2 ⟨c35, ?_⟩
  refine List.forall_mem_cons.2 ⟨c36, ?_⟩
  refine List.forall_mem_cons.2 ⟨c37, ?_⟩
  refine List.forall_mem_cons.2 ⟨c38, ?_⟩
  refine List.forall_mem_cons.2 ⟨c39, ?_⟩
  refine List.forall_mem_cons.2 ⟨c40, ?_⟩
  refine List.forall_mem_cons.2 ⟨c41, ?_⟩
  refine List.forall_mem_cons.2 ⟨c42, ?_⟩
  refine List.forall_mem_cons.2 ⟨c43, ?_⟩
  refine List.forall_mem_cons.2 ⟨c44, ?_⟩
  refine List.forall_mem_cons.2 ⟨c45, ?_⟩
  refine List.forall_mem_cons.2 ⟨c46, ?_⟩
  refine List.forall_mem_cons.2 ⟨c47, ?_⟩
  refine List.forall_mem_cons.2 ⟨c48, ?_⟩
  refine List.forall_mem_cons.2 ⟨c49, ?_⟩
  refine List.forall_mem_cons.2 ⟨c50, ?_⟩
  refine List.forall_mem_cons.2 ⟨c51, ?_⟩
  refine List.forall_mem_cons.2 ⟨c52, ?_⟩
  refine List.forall_mem_cons.2 ⟨c53, ?_⟩
  refine List.forall_mem_cons.2 ⟨c54, ?_⟩
  refine List.forall_mem_cons.2 ⟨c55, ?_⟩
  refine List.forall_mem_cons.2 ⟨c56, ?_⟩
  refine List.forall_mem_cons.2 ⟨c57, ?_⟩
  refine List.forall_mem_cons.2 ⟨c58, ?_⟩
  refine List.forall_mem_cons.2 ⟨c59, ?_⟩
  refine List.forall_mem_cons.2 ⟨c60, ?_⟩
  refine List.forall_mem_cons.2 ⟨c61, ?_⟩
  refine List.forall_mem_cons.2 ⟨c62, ?_⟩
  refine List.forall_mem_cons.2 ⟨c64, ?_⟩
  refine List.forall_mem_cons.2 ⟨c65, ?_⟩
  refine List.forall_mem_cons.2 ⟨c66, ?_⟩
  refine List.forall_mem_cons.2 ⟨c67, ?_⟩
  refine List.forall_mem_cons.2 ⟨c68, ?_⟩
  refine List.forall_mem_cons.2 ⟨c69, ?_⟩
  refine List.forall_mem_cons.2 ⟨c70, ?_⟩
  refine List.forall_mem_cons.2 ⟨c71, ?_⟩
  refine List.forall_mem_cons.2 ⟨c72, ?_⟩
  refine List.forall_mem_cons.2 ⟨c73, ?_⟩
  refine List.forall_mem_cons.2 ⟨c74, ?_⟩
  refine List.forall_mem_cons.2 ⟨c75, ?_⟩
  refine List.forall_mem_cons.2 ⟨c76, ?_⟩
  refine List.forall_mem_cons.2 ⟨c77, ?_⟩
  refine List.forall_mem_cons.2 ⟨c78, ?_⟩
  refine List.forall_mem_cons.2 ⟨c79, ?_⟩
  refine List.forall_mem_cons.2 ⟨c80, ?_⟩
  refine List.forall_mem_cons.2 ⟨c81, ?_⟩
  refine List.forall_mem_cons.2 ⟨c82, ?_⟩
  refine List.forall_mem_cons.2 ⟨c83, ?_⟩
  refine List.forall_mem_cons.2 ⟨c84, ?_⟩
  refine List.forall_mem_cons.2 ⟨c85, ?_⟩
  refine List.forall_mem_cons.2 ⟨c86, ?_⟩
  refine List.forall_mem_cons.2 ⟨c88, ?_⟩
  refine List.forall_mem_cons.2 ⟨c89, ?_⟩
  refine List.forall_mem_cons.2 ⟨c90, ?_⟩
  refine List.forall_mem_cons.2 ⟨c91, ?_⟩
  refine List.forall_mem_cons.2 ⟨c92, ?_⟩
  refine List.forall_mem_cons.2 ⟨c93, ?_⟩
  refine List.forall_mem_cons.2 ⟨c94, ?_⟩
  refine List.forall_mem_cons.2 ⟨c95, ?_⟩
  refine List.forall_mem_cons.2 ⟨c96, ?_⟩
  refine List.forall_mem_cons.2 ⟨c97, ?_⟩
  refine List.forall_mem_cons.2 ⟨c98, ?_⟩
  refine List.forall_mem_cons.2 ⟨c99, ?_⟩
  refine List.forall_mem_cons.2 ⟨c100, ?_⟩
  refine List.forall_mem_cons.2 ⟨c102, ?_⟩
  refine List.forall_mem_cons.2 ⟨c103, ?_⟩
  refine List.forall_mem_cons.2 ⟨c104, ?_⟩
  refine List.forall_mem_cons.2 ⟨c105, ?_⟩
  refine List.forall_mem_cons.2 ⟨c106, ?_⟩
  refine List.forall_mem_cons.2 ⟨c107, ?_⟩
  refine List.forall_mem_cons.2 ⟨c108, ?_⟩
  refine List.forall_mem_cons.2 ⟨c109, ?_⟩
  refine List.forall_mem_cons.2 ⟨c110, ?_⟩
  refine List.forall_mem_cons.2 ⟨c111, ?_⟩
  refine List.forall_mem_cons.2 ⟨c112, ?_⟩
  refine List.forall_mem_cons.2 ⟨c113, ?_⟩
  refine List.forall_mem_cons.2 ⟨c118, ?_⟩
  refine List.forall_mem_cons.2 ⟨c119, ?_⟩
  refine List.forall_mem_cons.2 ⟨c120, ?_⟩
  refine List.forall_mem_cons.2 ⟨c121, ?_⟩
  refine List.forall_mem_cons.2 ⟨c122, ?_⟩
  refine List.forall_mem_cons.2 ⟨c123, ?_⟩
  refine List.forall_mem_cons.2 ⟨c124, ?_⟩
  refine List.forall_mem_cons.2 ⟨c125, ?_⟩
  refine List.forall_mem_cons.2 ⟨c143, ?_⟩
  refine List.forall_mem_cons.2 ⟨c144, ?_⟩
  refine List.forall_mem_cons.2 ⟨c145, ?_⟩
  refine List.forall_mem_cons.2 ⟨c146, ?_⟩
  refine List.forall_mem_cons.2 ⟨c147, ?_⟩
  exact fun p hp => absurd hp (by simp)

theorem fs_ok : ∀ f af, tbl.get f = some af → ∃ fn c E, CompIs Tryz.prog f af fn c E := fun f af h =>
  compIs_of (table_ok (f, af) (tblOf_get h))

theorem mixed : Tryz.prog.follows .mixedOrders = true := by kernel_rfl

/-- The cell of internal/bytealg.MaxLen. -/
def imOf (m : Int) (b o : Nat) : Option Value := if b = 0 ∧ o = 0 then some (.int .i64 m) else none

theorem own_sim {m : Int} (cf : CallF) (C : CallSim Tryz.prog (imG (imOf m)) cf) : CallSim Tryz.prog (imG (imOf m)) (own cf) := by
  unfold own
  refine prim_call (prim_dcall C ?_) ?_
  · intro args v hv G w vargs hle him hargs
    unfold readG at hv
    split at hv
    · cases hv
      obtain ⟨x, l, h1, _, h3⟩ := vrels_cons.1 hargs
      obtain ⟨y, l', h4, _, h6⟩ := vrels_cons.1 h3
      rw [vrels_nil] at h6
      subst h6 h4
      have hva : vargs = #[x, y] := by
        apply Array.toList_inj.1
        rw [h1]
      subst hva
      refine ⟨⟨_, _, Tryz.func12, rfl, by decide⟩, (read_idle x y w).mono fun e u' w' hp => ?_⟩
      obtain ⟨rfl, rfl, rfl⟩ := hp
      refine ⟨rfl, rfl, _, rfl, ?_⟩
      simp only [VRel]
      exact ⟨#[], rfl, by simp only [VRels]⟩
    · cases hv
  · intro args v hv G w vargs hle him hargs
    unfold containsG at hv
    split at hv
    · rename_i a b
      cases hs : Nat.ble a.size 1000 with
      | false => rw [hs] at hv; cases hv
      | true =>
        rw [hs] at hv
        cases hv
        have hs := Nat.le_of_ble_eq_true hs
        obtain ⟨x, l, h1, h2, h3⟩ := vrels_cons.1 hargs
        obtain ⟨y, l', h4, h5, h6⟩ := vrels_cons.1 h3
        rw [vrels_nil] at h6
        simp only [VRel] at h2 h5
        subst h2 h5 h6 h4
        have hva : vargs = #[.string a, .string b] := by
          apply Array.toList_inj.1
          rw [h1]
        subst hva
        have hm : w.cell? ⟨0, 0, none⟩ = some (.int .i64 m) := him 0 0 _ (hle.im 0 0 _ (by simp [imG, imOf]))
        refine ⟨⟨_, _, Tryz.func63, rfl, by decide⟩, (Tryz.strings_Contains a b m w (by omega) hm).mono fun e w' hp => ?_⟩
        obtain ⟨rfl, rfl⟩ := hp
        exact ⟨rfl, _, rfl, by simp only [VRel]⟩
    · cases hv

/-- MachNil: it returns true, and all that stood stands. -/
theorem nil_calls {W : World} {m : Int} (hm : W.cell? ⟨0, 0, none⟩ = some (.int .i64 m)) :
    Calls Tryz.prog 3 #[] W fun e W' => e = .returned (.bool true) ∧ Go.RowKit.Grown W W' := by
  have C : CallSim Tryz.prog (imG (imOf m)) (callA own tbl.get 3000 3000) := callA_sound mixed own_sim fs_ok 3000 3000
  refine calls_okTrue (im := imOf m) C run0_true fun b o v hv => ?_
  unfold imOf at hv
  split at hv
  · rename_i he
    cases hv
    obtain ⟨rfl, rfl⟩ := he
    exact hm
  · cases hv

end Go.Ago.Nil
