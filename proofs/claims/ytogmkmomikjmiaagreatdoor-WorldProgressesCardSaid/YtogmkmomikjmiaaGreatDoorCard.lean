/- For every n and every engine, WorldProgresses returns true and its arguments read as they did; the listed variables hold what the program lays into them. -/
import Derived.Test.YtogmkmomikjmiaaGreatDoorLow
import Derived.Test.YtogmkmomikjmiaaGreatDoorLaw
import Derived.Test.YtogmkmomikjmiaaGreatDoorFactA
import Derived.Test.YtogmkmomikjmiaaGreatDoorFactB
import Derived.Test.YtogmkmomikjmiaaGreatDoorFactC
import Derived.Test.YtogmkmomikjmiaaGreatDoorTied
set_option linter.all false
namespace Go.Proofs.YtogmkmomikjmiaaGreatDoor.WorldProgresses
open Go Go.ChangeShapes Go.WideShapes Go.ChangeAt Go.RowKit
open Go.Ab (Still Gd)
theorem u8n {n : Int} (h : (Lit.int .u8 n).wf = true) : 0 ≤ n ∧ n < 256 := by
  simp only [Lit.wf, Bool.and_eq_true, decide_eq_true_eq] at h
  have h1 : IntKind.min .u8 = 0 := rfl
  have h2 : IntKind.max .u8 = 255 := rfl
  rw [h1, h2] at h
  omega
theorem law (n e : Int) (hn : 0 ≤ n ∧ n < 256) (he : 0 ≤ e ∧ e < 256) (W : World) (hL : laidMet Tryz.prog theLaid W) : Calls Tryz.prog 3 #[.int .u8 n, .int .u8 e] W fun e W' => e = .returned (.bool true) ∧ Still W W' := by
  obtain ⟨m, rfl⟩ := Int.eq_ofNat_of_zero_le hn.1
  obtain ⟨k, rfl⟩ := Int.eq_ofNat_of_zero_le he.1
  obtain ⟨x, hx, hv⟩ := Ab.Y.law44 (n := m) (e := k) (by omega) (by omega)
  have h := Ab.Cm.says_of_calls (P := Tryz.prog) (f := 3) (l := [(.u8, .ofNat m), (.u8, .ofNat k)]) hx hv
  exact Ab.law_on (vs := [.int .u8 m, .int .u8 k]) h (good_laid hL) rfl fun i v d hv hd => by
    match i with
    | 0 => cases hv; cases hd; exact .v _ _ (.int _ _)
    | 1 => cases hv; cases hd; exact .v _ _ (.int _ _)
    | i + 2 => simp at hv
set_option maxRecDepth 100000 in
theorem contract (H : Type) (enc : TypeId × Value → H) (W : World) (base : Nat) (args : Array Value) (ds gs : List (DataW H)) (before : List MemPlace)
    (hval : ∀ (j : Nat) t v, Tryz.f3.params[j]? = some t → args[j]? = some v → Value.okWide Tryz.prog W .any base t v)
    (hW : DataW.Whole enc Tryz.prog Tryz.f3.params.toList Rows.worldProgressesSpec.vars false W args.toList ds gs before) (hL : laidMetH Tryz.prog Rows.worldProgressesRow.laid W) :
    Calls Tryz.prog 3 args W fun e W' => ∃ v, e = .returned v ∧ Rows.worldProgressesSpec.post enc Tryz.prog Tryz.f3 false true false false W args v W' := by
  have hW' := hW
  obtain ⟨p, q, hA0, hV, rfl, hfz, hnd⟩ := hW
  have hA : DataW.TrodAll enc Tryz.prog W 0 (fun _ => true) true Tryz.f3.params.toList args.toList ds p := hA0
  rw [Tryz.params3] at hA hval
  obtain ⟨v0, vs0, d0, ds0, p0, q0, hargs, rfl, rfl, h0, r0⟩ := trodAll_cons hA
  obtain ⟨v1, vs1, d1, ds1, p1, q1, hargs1, rfl, rfl, h1, r1⟩ := trodAll_cons r0
  obtain ⟨rfl, rfl, rfl⟩ := trodAll_nil r1
  obtain rfl : args = #[v0, v1] := by cases args; simp_all
  obtain ⟨rfl, rfl⟩ := trodVars_none hV
  obtain ⟨n, rfl, rfl, rfl, wn⟩ := open_int Tryz.underlying5 (hval 0 5 v0 rfl rfl) h0
  obtain ⟨e, rfl, rfl, rfl, we⟩ := open_int Tryz.underlying5 (hval 1 5 v1 rfl rfl) h1
  clear hA0
  simp only [List.append_nil] at hW'
  refine (law n e (u8n wn) (u8n we) W hL).mono fun e' W' ⟨he, hg⟩ => ?_
  subst he
  exact ⟨_, rfl, Ab.post_of_still (pa := []) (pv := []) hW' (fun _ _ _ => trodAll_cons_mk (shut_bool Tryz.underlying4 _) trodAll_mk0) (fun _ _ => trodAll_cons_mk (shut_int Tryz.underlying5 wn) (trodAll_cons_mk (shut_int Tryz.underlying5 we) trodAll_mk0)) (fun _ _ => rfl) rfl hg⟩
noncomputable def theIn : Input := ⟨#[], #[.int .u8 0, .int .u8 0], []⟩
theorem laid_met (os : Os) : laidMet Tryz.prog theLaid ((laidWorld os).forCall (fun _ _ => 0) ⟨#[], #[.int .u8 0, .int .u8 0], []⟩).memory :=
  laidMet_of_run' 8 (by kernel_rfl) (by kernel_rfl)
theorem reads (os : Os) {H : Type} (enc : TypeId × Value → H) : ∃ places, DataW.whole enc Tryz.prog ((laidWorld os).forCall (fun _ _ => 0) ⟨#[], #[.int .u8 0, .int .u8 0], []⟩).memory Tryz.f3.params.toList Rows.worldProgressesSpec.vars false #[Value.int .u8 0, .int .u8 0].toList 8 = some ([.lit (.int .u8 0), .lit (.int .u8 0)], [], places) :=
  ⟨[], by kernel_rfl⟩
set_option maxRecDepth 100000 in
theorem lifted (os : Os) (started : os.Started) (H : Type) (enc : TypeId × Value → H) (F : Stop.Interp) :
    ReturnsInHanded {} Tryz.checked os 3 .any ((OpenSpec.ofChange Rows.worldProgressesSpec).preRow enc Tryz.prog Tryz.f3 Rows.worldProgressesRow.domain false Rows.worldProgressesRow.laid) (((OpenSpec.ofChange Rows.worldProgressesSpec).at F).post enc Tryz.prog Tryz.f3 false true false false) := by
  obtain ⟨places, hx⟩ := reads os enc
  refine returnsInHanded_of_row (C := Tryz.checked) (s := OpenSpec.ofChange Rows.worldProgressesSpec) own started (by kernel_rfl) Tryz.func3
    (witness_row_at (enc := enc) (C := Tryz.checked) false (laidWorld os) #[.int .u8 0, .int .u8 0] rfl (by kernel_rfl) (by kernel_rfl) (by kernel_rfl)
      (OpenSpec.preRow_of_cond 8 hx (by kernel_rfl) (fun k hk => by cases hk) (by kernel_rfl) (laid_met os))) ?_
  intro W base args ds gs before hval hW _ _ _ hL _ _
  exact contract H enc W base args ds gs before hval hW hL
theorem bt {a b : Bool} (h : a = true) (k : b = true) : (a && b) = true := by rw [h, k]; rfl
set_option maxRecDepth 100000 in
theorem closed : joinedFacts Tryz.pinned.checked.prog 3 Tryz.f3 (OpenSpec.ofChange Rows.worldProgressesSpec).bare Rows.worldProgressesRow = true := bt (bt (bt (bt (bt (bt (bt (bt (bt (bt (bt (bt (bt (bt (bt (bt (bt (bt (bt (bt (bt (bt (bt (bt (bt (bt (bt (bt (bt (bt (bt FC.j0 FB.j1) FB.j2) FC.j3) FC.j4) FC.j5) FC.j6) FC.j7) FC.j8) FA.j9) FA.j10) FA.j11) FA.j12) FC.j13) FC.j14) FC.j15) FC.j16) FC.j17) FC.j18) FC.j19) FC.j20) FC.j21) FB.j22) FC.j23) FC.j24) FC.j25) FC.j26) FC.j27) FC.j28) FC.j29) FC.j30) FC.j31
theorem said : Rows.WorldProgressesSaid :=
  OpenClaim.holds_of_cond 3 Tryz.f3 rfl rfl rfl rfl rfl rfl rfl ⟨rfl, rfl, rfl, rfl, rfl⟩ rfl rfl rfl rfl rfl FT.fn3 Tryz.func3 closed
    (of_decide_eq_true (by kernel_rfl)) (by unfold Func.isWrapper; first | (rw [if_pos (by decide +kernel)]; kernel_rfl) | (rw [if_neg (by decide +kernel)]; exact ⟨rfl, rfl⟩))
    (fun os started H enc _ F => by rw [OpenClaim.pre_eq_preRow]; exact lifted os started H enc F)
theorem plain (f : FuncId) (fn : Func) (hf : Tryz.pinned.checked.prog.funcNamed "clockwork/clockworklaw56.WorldProgresses" = some f) (hfn : Tryz.pinned.checked.prog.funcs[f]? = some fn) :
    true = Tryz.pinned.checked.prog.looks [] ∧ ∀ (j : Nat) t, fn.params[j]? = some t → Tryz.pinned.checked.prog.wantsStandIn t = false := by
  obtain rfl : f = 3 := Option.some.inj (FT.fn3.symm.trans hf) |>.symm
  obtain rfl : fn = Tryz.f3 := (Option.some.inj (Tryz.func3.symm.trans hfn)).symm
  refine ⟨FC.j33, fun j t ht => ?_⟩
  rw [Tryz.params3] at ht
  obtain rfl : t = 5 := by have := Array.mem_of_getElem? ht; simpa using this
  exact (show Tryz.prog.wantsStandIn 5 = false by kernel_rfl)
theorem card : Rows.WorldProgressesCardSaid :=
  Claim7.holds_tied_plain_at .later [] _ _ _ _ said (fun _ h => by cases h) (by kernel_rfl) (fun _ h => by cases h) FT.worldProgresses_row_tie rfl ⟨rfl, rfl⟩ (by kernel_rfl) rfl plain FC.j32
end Go.Proofs.YtogmkmomikjmiaaGreatDoor.WorldProgresses
