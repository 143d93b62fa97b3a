/- PROVED: the law SessFull of clewlaw23 answers true for every number n, and leaves the caller's memory as it was; CONDITIONS: those of the given card (the two listed tables of utf8 tied to the text of the program). -/
import Derived.Test.YtjbkglcifgcjcaaGreatDoorVe
import Derived.Test.YtjbkglcifgcjcaaGreatDoorTf
import Derived.Test.YtjbkglcifgcjcaaGreatDoorKc
import Derived.Test.YtjbkglcifgcjcaaGreatDoorTie
import Derived.Test.YtjbkglcifgcjcaaGreatDoorCards
import Derived.Deep.DeepLaidRun
import Derived.LaidMore
import Derived.OpenShut
import Derived.Stop.Joined
set_option linter.unusedVariables false
namespace Go.Proofs.YtjbkglcifgcjcaaGreatDoor
open Go Go.ChangeShapes Go.WideShapes Go.ChangeAt Go.RowKit

theorem Tryz.own : ownKnob Tryz.prog.godebug = none := by kernel_rfl
/-- The cells of a table that holds numbers, or rows of numbers. -/
def tabCells : DataW Unit → List Value
  | .agg ps => ps.flatMap fun
    | .lit (.int k n) => [.int k n]
    | .agg qs => qs.flatMap fun
      | .lit (.int k n) => [.int k n]
      | _ => []
    | _ => []
  | _ => []
/-- The witness' world: the settled one, the two tables laid. -/
noncomputable def laidWorld (os : Os) : World :=
  let w0 := World.holding Tryz.prog os ⟨#[], #[], []⟩
  let put (h : Array Obj) (g : Nat) (cs : Array Value) : Array Obj := h.modify g fun
    | .cells _ t frozen => .cells cs t frozen
    | o => o
  let h1 := put w0.heap 1 (tabCells Rows.laid_unicode_utf8_first).toArray
  let h2 := put h1 2 (tabCells Rows.laid_unicode_utf8_acceptRanges).toArray
  { w0 with heap := h2 }
theorem laid_met (os : Os) (args : Array Value) : laidMetH Tryz.prog Rows.sessFullRow.laid ((laidWorld os).forCall (fun _ _ => 0) ⟨#[], args, []⟩).memory :=
  laidMetH_of_parts3 (fuel := 8) (laidMet_of_run3 8 (by kernel_rfl) (by kernel_rfl) (by kernel_rfl)) (by kernel_rfl) (by kernel_rfl)

set_option maxRecDepth 100000 in
theorem sess_lifted (os : Os) (started : os.Started) (H : Type) (enc : TypeId × Value → H) :
    ReturnsInHanded {} Tryz.checked os 6 .any (fun w args => (Rows.sessFullSpec.pre enc Tryz.prog Tryz.f6 [] false w args ∧ laidMetH Tryz.prog Rows.sessFullRow.laid w) ∧ sizedMet enc Tryz.prog Tryz.f6 (OpenSpec.ofChange Rows.sessFullSpec) false w args)
      (Rows.sessFullSpec.post enc Tryz.prog Tryz.f6 false true false false) := by
  refine returnsInHanded_of_change_and (C := Tryz.checked) (X := fun w _ => laidMetH Tryz.prog Rows.sessFullRow.laid w) (fun _ _ _ hh h => h.of_heap hh) Tryz.own started (by kernel_rfl) Tryz.func6
    (ChangeSpec.witness_at (enc := enc) (C := Tryz.checked) (os := os) (X := fun w _ => laidMetH Tryz.prog Rows.sessFullRow.laid w) false (laidWorld os) #[.int .i64 0] 8 rfl (by kernel_rfl) (by kernel_rfl) (by kernel_rfl) (by kernel_rfl) (by kernel_rfl) (laid_met os _)) ?_
  intro W base args ds gs before hval0 hW _ _ hL _
  have hval : ∀ (j : Nat) t v, Tryz.f6.params[j]? = some t → args[j]? = some v → Value.okWide Tryz.prog W .any base t v := hval0
  have hW' := hW
  obtain ⟨p, q, hA0, hV0, rfl, hfz, hnd⟩ := hW
  have hA : DataW.TrodAll enc Tryz.prog W 0 (fun _ => true) true Tryz.f6.params.toList args.toList ds p := hA0
  have hV : DataW.TrodVars enc Tryz.prog W (fun _ => true) [] gs q := hV0
  rw [Tryz.params6] at hA hval
  obtain ⟨v0, d0, rfl, rfl, h0⟩ := trodAll_one hA
  obtain ⟨n, rfl, rfl, rfl, hwn⟩ := open_int Tryz.underlying3 (hval 0 3 v0 rfl rfl) h0
  obtain ⟨rfl, rfl⟩ : gs = [] ∧ q = [] := by
    cases gs with
    | nil => exact ⟨rfl, hV⟩
    | cons g r => exact absurd hV (by intro h; cases h)
  have e1 : Rows.sessFullSpec.fn H ([.lit (.int .i64 n)] ++ []) = { results := [.lit (.bool true)], args := [.lit (.int .i64 n)] } := by simp [Rows.sessFullSpec]
  have hv : Dv.VsR ⟨Dv.fmOf W, Dv.noHP⟩ [Dv.DV.int .i64 n] #[.int .i64 n] := ⟨rfl, fun j hj => by
    have : j = 0 := by simp at hj; omega
    subst this
    exact Dv.VR.int _ _⟩
  refine (Dv.lift TA.ctxOK ⟨_, (show TA.ctx.fn 6 = some TA.fi6 from rfl)⟩ hv (TA.sf_law n)).mono fun e W' ⟨u, K', he, hu, hk⟩ => ?_
  subst he
  cases hu
  refine ⟨_, rfl, _, _, _, [], [], [], hW', ?_, ?_, ?_, hk.butR _, fun h => by cases h⟩
  · rw [e1]; exact trodAll_mk1 (shut_bool Tryz.underlying4 true)
  · rw [e1]; exact trodAll_mk1 (shut_int Tryz.underlying3 hwn)
  · rw [e1]; rfl

theorem sess_named : Tryz.pinned.checked.prog.funcNamed Rows.sessFullRow.func = some 6 := by kernel_rfl
theorem sess_closed : joinedFacts Tryz.pinned.checked.prog 6 Tryz.f6 Rows.sessFullSpec Rows.sessFullRow = true := by kernel_rfl
theorem sess_inst : Tryz.f6.isInstance Tryz.pinned.checked.prog Rows.sessFullRow.origin Rows.sessFullRow.targs := of_decide_eq_true (by kernel_rfl)
theorem sess_wrap : Tryz.f6.isWrapper Tryz.pinned.checked.prog Rows.sessFullRow.wrapper Rows.sessFullRow.mainSum := by
  unfold Func.isWrapper
  first | (rw [if_pos (by decide +kernel)]; kernel_rfl) | (rw [if_neg (by decide +kernel)]; exact ⟨rfl, rfl⟩)
theorem sess_holds : Rows.SessFullSaid :=
  OpenClaim.holds_of_wide 6 Tryz.f6 rfl rfl rfl rfl rfl rfl rfl ⟨rfl, rfl, rfl, rfl, rfl⟩ rfl rfl rfl rfl rfl sess_named Tryz.func6 sess_closed sess_inst sess_wrap
    (fun os started H enc _ => sess_lifted os started H enc)

theorem sess_card : Rows.SessFullCardSaid :=
  Claim7.holds_tied_plain_at .later [] [.data, .pinned] true (true, "59488ed2b0e2ffc49166e38ab3aa73eed6ccc27a6eb38fd49ec66386ced94ab2") false
    sess_holds (fun _ h => by cases h) (by kernel_rfl) (fun _ h => by cases h) sessFull_row_tie rfl ⟨rfl, rfl⟩ (by kernel_rfl) rfl
    (fun f fn hf hfn => by
      obtain rfl : f = 6 := Option.some.inj ((show Tryz.prog.funcNamed "clew/clewlaw23.SessFull" = some 6 by kernel_rfl).symm.trans hf) |>.symm
      obtain rfl : fn = Tryz.f6 := (Option.some.inj (Tryz.func6.symm.trans hfn)).symm
      exact ⟨by kernel_rfl, fun j t ht => by
        rw [Tryz.params6] at ht
        have h3 : t = 3 := by
          rcases j with _ | j
          · simpa using ht.symm
          · simp at ht
        subst h3
        exact (show Tryz.prog.wantsStandIn 3 = false by kernel_rfl)⟩)
    (by kernel_rfl)
#print axioms sess_card
end Go.Proofs.YtjbkglcifgcjcaaGreatDoor
