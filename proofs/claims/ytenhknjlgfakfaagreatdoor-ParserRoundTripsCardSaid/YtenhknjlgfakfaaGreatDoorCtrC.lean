/- Each function does what its plain function says. Printed by a program. -/
import Derived.Test.YtenhknjlgfakfaaGreatDoorCtrB
/- Printed by gen.py. -/
namespace Go.Ab.Y
open Go Go.Ab Go.Proofs
set_option linter.unusedVariables false
set_option maxRecDepth 20000
set_option linter.unusedVariables false
theorem cS_x0 (n : Nat) : (∀ (a : Expr) (b : Expr) (r : Bool), F_x0 n a b = some r → saysOf Tryz.prog 113 [.v (.agg [.int .i64 a.Op, .int .i64 a.N, .str a.S, encL 4 enc_Expr a.Args]), .v (.agg [.int .i64 b.Op, .int .i64 b.N, .str b.S, encL 4 enc_Expr b.Args])] [] [] (.ret (.v (.bool r)) none) []) ∧ (∀ (s1 : List Expr) (s2 : List Expr) (r : Bool), F_j0 n s1 s2 = some r → saysOf Tryz.prog 155 [.v (encL 4 enc_Expr s1), .v (encL 4 enc_Expr s2), .fn 113 []] [] [] (.ret (.v (.bool r)) none) []) := by
 induction n with
 | zero => exact ⟨fun a b r h => (by have h2 : (none : Option _) = some r := h; cases h2), fun s1 s2 r h => (by have h2 : (none : Option _) = some r := h; cases h2)⟩
 | succ m ih => exact ⟨fun a b r h => cB_ast_equalExpr m (F_x0 m) (F_j0 m) ih.1 ih.2 a b r h, fun s1 s2 r h => cB_slices_EqualFunc_Expr m (F_x0 m) (F_j0 m) ih.1 ih.2 s1 s2 r h⟩
theorem c_x0 (n : Nat) (a : Expr) (b : Expr) (r : Bool) (h : F_x0 n a b = some r) : saysOf Tryz.prog 113 [.v (.agg [.int .i64 a.Op, .int .i64 a.N, .str a.S, encL 4 enc_Expr a.Args]), .v (.agg [.int .i64 b.Op, .int .i64 b.N, .str b.S, encL 4 enc_Expr b.Args])] [] [] (.ret (.v (.bool r)) none) [] := (cS_x0 n).1 a b r h
theorem cB_slices_EqualFunc_Stmt (n : Nat) (f_g0 : (List Stmt) → (List Stmt) → Option Bool) (f_ae0 : Stmt → Stmt → Option Bool) (i_g0 : ∀ (s1 : List Stmt) (s2 : List Stmt) (r : Bool), f_g0 s1 s2 = some r → saysOf Tryz.prog 62 [.v (encL 13 enc_Stmt s1), .v (encL 13 enc_Stmt s2), .fn 63 []] [] [] (.ret (.v (.bool r)) none) []) (i_ae0 : ∀ (a : Stmt) (b : Stmt) (r : Bool), f_ae0 a b = some r → saysOf Tryz.prog 63 [.v (.agg [.int .i64 a.Op, .str a.Name, .int .i64 a.Max, .int .i64 a.A.Op, .int .i64 a.A.N, .str a.A.S, encL 4 enc_Expr a.A.Args, .int .i64 a.B.Op, .int .i64 a.B.N, .str a.B.S, encL 4 enc_Expr a.B.Args, encL 13 enc_Stmt a.Body, encL 13 enc_Stmt a.Else]), .v (.agg [.int .i64 b.Op, .str b.Name, .int .i64 b.Max, .int .i64 b.A.Op, .int .i64 b.A.N, .str b.A.S, encL 4 enc_Expr b.A.Args, .int .i64 b.B.Op, .int .i64 b.B.N, .str b.B.S, encL 4 enc_Expr b.B.Args, encL 13 enc_Stmt b.Body, encL 13 enc_Stmt b.Else])] [] [] (.ret (.v (.bool r)) none) []) (s1 : List Stmt) (s2 : List Stmt) (r : Bool) (h : B_g0 n f_g0 f_ae0 s1 s2 = some r) : saysOf Tryz.prog 62 [.v (encL 13 enc_Stmt s1), .v (encL 13 enc_Stmt s2), .fn 63 []] [] [] (.ret (.v (.bool r)) none) [] := by
 refine sw_ tt_ok Tryz.func62 rfl rfl rfl ?_
 unfold B_g0 at h
 refine AWp.seq ?_
 refine AWp.rg tt_ok [] (by kernel_rfl) all_nil ?_
 refine AE.tn_ ?_
 refine AWp.seq ?_
 refine AWp.seq ?_
 refine AWp.rg tt_ok [] (by kernel_rfl) all_nil ?_
 refine AE.tn_ ?_
 refine AWp.cnd h (by kernel_rfl) ?_ ?_ <;> clear h <;> intro h
 ·refine AWp.seq ?_
  refine AWp.rg tt_ok [] (by kernel_rfl) all_nil ?_
  refine AE.tn_ ?_
  refine AWp.ret ?_
  obtain rfl := Option.some.inj h
  exact AE.tr_ (post_ret (by kernel_rfl))
 ·refine AWp.skip ?_
  refine AE.tn_ ?_
  refine AWp.cut (fun st' => restr [] [] 0 st'.env st'.H st'.nxt = some ⟨[], [], 0⟩ ∧ F_g0_j1 n f_g0 f_ae0 = some r) ?_ ?_
  ·refine AWp.seq ?_
   refine AWp.rg tt_ok [] (by kernel_rfl) all_nil ?_
   refine AE.tn_ ?_
   refine AWp.block ?_
   refine AWp.loop (σ := Int) (fun zm zs zst => restr [1, 2, 15, 16, 17] [] 0 zst.env zst.H zst.nxt = some ⟨[(1, ⟨.v (encL 13 enc_Stmt s2), none⟩), (2, ⟨.fn 63 [], none⟩), (15, ⟨.v (encL 13 enc_Stmt s1), none⟩), (16, ⟨.v (.int .i64 ((s1.length : Nat) : Int)), none⟩), (17, ⟨.v (.int .i64 zs), none⟩)], [], 0⟩ ∧ F_g0_l2 n f_g0 f_ae0 s2 s1 zm zs = some r) ?_ (n := n) (s := 0) ⟨by kernel_rfl, h⟩
   clear h
   rintro m2 v6 st' ⟨hr', h⟩
   cases m2 with
   | zero =>
    have h2 : (none : Option _) = some r := h
    cases h2
   | succ m2 =>
    refine ⟨m2, rfl, AWp.drop _ _ _ hr' (by kernel_rfl) ?_⟩
    clear hr' st'
    replace h : F_g0_b2 n f_g0 f_ae0 s2 s1 (F_g0_l2 n f_g0 f_ae0 s2 s1 m2) v6 = some r := h
    unfold F_g0_b2 at h
    refine AWp.seq ?_
    refine AWp.rg tt_ok [] (by kernel_rfl) all_nil ?_
    refine AE.tn_ ?_
    refine AWp.seq ?_
    refine AWp.cnd h (by kernel_rfl) ?_ ?_ <;> clear h <;> intro h
    ·refine AWp.skip ?_
     refine AE.tn_ ?_
     refine AWp.seq ?_
     refine AWp.block ?_
     refine AWp.seq ?_
     obtain ⟨g7, h⟩ := ass_some h
     refine AWp.rg tt_ok [orv (enc_vimp_Stmt (s1.getD (v6).toNat default))] (by kernel_rfl) (all_cons (enc_vimp_Stmt (s1.getD (v6).toNat default)) (all_cons g7 all_nil)) ?_
     refine AE.tn_ ?_
     refine AWp.seq ?_
     obtain ⟨g8, h⟩ := ass_some h
     refine AWp.rg tt_ok [orv (enc_vimp_Stmt (s2.getD (v6).toNat default))] (by kernel_rfl) (all_cons (enc_vimp_Stmt (s2.getD (v6).toNat default)) (all_cons g8 all_nil)) ?_
     refine AE.tn_ ?_
     refine AWp.seq ?_
     obtain ⟨r9, hr9, h⟩ := bind_some h
     have pr9 := i_ae0 (⟨(s1.getD (v6).toNat default).Op, (s1.getD (v6).toNat default).Name, (s1.getD (v6).toNat default).Max, (⟨((s1.getD (v6).toNat default).A).Op, ((s1.getD (v6).toNat default).A).N, ((s1.getD (v6).toNat default).A).S, ((s1.getD (v6).toNat default).A).Args⟩ : Expr), (⟨((s1.getD (v6).toNat default).B).Op, ((s1.getD (v6).toNat default).B).N, ((s1.getD (v6).toNat default).B).S, ((s1.getD (v6).toNat default).B).Args⟩ : Expr), (s1.getD (v6).toNat default).Body, (s1.getD (v6).toNat default).Else⟩ : Stmt) (⟨(s2.getD (v6).toNat default).Op, (s2.getD (v6).toNat default).Name, (s2.getD (v6).toNat default).Max, (⟨((s2.getD (v6).toNat default).A).Op, ((s2.getD (v6).toNat default).A).N, ((s2.getD (v6).toNat default).A).S, ((s2.getD (v6).toNat default).A).Args⟩ : Expr), (⟨((s2.getD (v6).toNat default).B).Op, ((s2.getD (v6).toNat default).B).N, ((s2.getD (v6).toNat default).B).S, ((s2.getD (v6).toNat default).B).Args⟩ : Expr), (s2.getD (v6).toNat default).Body, (s2.getD (v6).toNat default).Else⟩ : Stmt) _ hr9
     refine AWp.rg tt_ok [orn pr9 []] (by kernel_rfl) (all_cons pr9 all_nil) ?_
     refine AE.tn_ ?_
     refine AWp.cnd h (by kernel_rfl) ?_ ?_ <;> clear h <;> intro h
     ·refine AWp.seq ?_
      refine AWp.rg tt_ok [] (by kernel_rfl) all_nil ?_
      refine AE.tn_ ?_
      refine AWp.ret ?_
      obtain rfl := Option.some.inj h
      exact AE.br_ (AE.tr_ (AE.tr_ (AE.br_ (AE.tr_ (post_ret (by kernel_rfl))))))
     ·refine AWp.skip ?_
      refine AE.bn_ (AE.tn_ ?_)
      refine AWp.rg tt_ok [] (by kernel_rfl) all_nil ?_
      exact AE.tn_ ⟨(IntKind.i64.wrap (v6 + 1)), by kernel_rfl, h⟩
    ·refine AWp.exit ?_
     exact AE.tx_ (AE.tx_ (AE.block_hit (AE.tn_ ⟨by kernel_rfl, h⟩)))
  ·clear h
   rintro st' ⟨hr', h⟩
   refine AWp.drop _ _ _ hr' (by kernel_rfl) ?_
   clear hr' st'
   unfold F_g0_j1 at h
   refine AWp.seq ?_
   refine AWp.rg tt_ok [] (by kernel_rfl) all_nil ?_
   refine AE.tn_ ?_
   refine AWp.ret ?_
   obtain rfl := Option.some.inj h
   exact post_ret (by kernel_rfl)
theorem cB_ast_equalStmt (n : Nat) (f_g0 : (List Stmt) → (List Stmt) → Option Bool) (f_ae0 : Stmt → Stmt → Option Bool) (i_g0 : ∀ (s1 : List Stmt) (s2 : List Stmt) (r : Bool), f_g0 s1 s2 = some r → saysOf Tryz.prog 62 [.v (encL 13 enc_Stmt s1), .v (encL 13 enc_Stmt s2), .fn 63 []] [] [] (.ret (.v (.bool r)) none) []) (i_ae0 : ∀ (a : Stmt) (b : Stmt) (r : Bool), f_ae0 a b = some r → saysOf Tryz.prog 63 [.v (.agg [.int .i64 a.Op, .str a.Name, .int .i64 a.Max, .int .i64 a.A.Op, .int .i64 a.A.N, .str a.A.S, encL 4 enc_Expr a.A.Args, .int .i64 a.B.Op, .int .i64 a.B.N, .str a.B.S, encL 4 enc_Expr a.B.Args, encL 13 enc_Stmt a.Body, encL 13 enc_Stmt a.Else]), .v (.agg [.int .i64 b.Op, .str b.Name, .int .i64 b.Max, .int .i64 b.A.Op, .int .i64 b.A.N, .str b.A.S, encL 4 enc_Expr b.A.Args, .int .i64 b.B.Op, .int .i64 b.B.N, .str b.B.S, encL 4 enc_Expr b.B.Args, encL 13 enc_Stmt b.Body, encL 13 enc_Stmt b.Else])] [] [] (.ret (.v (.bool r)) none) []) (a : Stmt) (b : Stmt) (r : Bool) (h : B_ae0 n f_g0 f_ae0 a b = some r) : saysOf Tryz.prog 63 [.v (.agg [.int .i64 a.Op, .str a.Name, .int .i64 a.Max, .int .i64 a.A.Op, .int .i64 a.A.N, .str a.A.S, encL 4 enc_Expr a.A.Args, .int .i64 a.B.Op, .int .i64 a.B.N, .str a.B.S, encL 4 enc_Expr a.B.Args, encL 13 enc_Stmt a.Body, encL 13 enc_Stmt a.Else]), .v (.agg [.int .i64 b.Op, .str b.Name, .int .i64 b.Max, .int .i64 b.A.Op, .int .i64 b.A.N, .str b.A.S, encL 4 enc_Expr b.A.Args, .int .i64 b.B.Op, .int .i64 b.B.N, .str b.B.S, encL 4 enc_Expr b.B.Args, encL 13 enc_Stmt b.Body, encL 13 enc_Stmt b.Else])] [] [] (.ret (.v (.bool r)) none) [] := by
 refine sw_ tt_ok Tryz.func63 rfl rfl rfl ?_
 unfold B_ae0 at h
 refine AWp.seq ?_
 refine AWp.rg tt_ok [] (by kernel_rfl) all_nil ?_
 refine AE.tn_ ?_
 refine AWp.seq ?_
 obtain ⟨r1, hr1, h⟩ := bind_some h
 have pr1 := fun c1 => c_x0 n (⟨a.A.Op, a.A.N, a.A.S, a.A.Args⟩ : Expr) (⟨b.A.Op, b.A.N, b.A.S, b.A.Args⟩ : Expr) _ (cond_t c1 hr1)
 obtain ⟨r2, hr2, h⟩ := bind_some h
 have pr2 := fun c1 => c_x0 n (⟨a.B.Op, a.B.N, a.B.S, a.B.Args⟩ : Expr) (⟨b.B.Op, b.B.N, b.B.S, b.B.Args⟩ : Expr) _ (cond_t c1 hr2)
 obtain ⟨r3, hr3, h⟩ := bind_some h
 have pr3 := fun c1 => i_g0 a.Body b.Body _ (cond_t c1 hr3)
 obtain ⟨r4, hr4, h⟩ := bind_some h
 have pr4 := fun c1 => i_g0 a.Else b.Else _ (cond_t c1 hr4)
 refine AWp.rg tt_ok [orn1 pr1, orn1 pr2, orn1 pr3, orn1 pr4] (by kernel_rfl) (all_cons pr4 (all_cons pr3 (all_cons pr2 (all_cons pr1 all_nil)))) ?_
 refine AE.tn_ ?_
 refine AWp.ret ?_
 obtain rfl := Option.some.inj h
 exact post_ret (by kernel_rfl)
theorem cS_g0 (n : Nat) : (∀ (s1 : List Stmt) (s2 : List Stmt) (r : Bool), F_g0 n s1 s2 = some r → saysOf Tryz.prog 62 [.v (encL 13 enc_Stmt s1), .v (encL 13 enc_Stmt s2), .fn 63 []] [] [] (.ret (.v (.bool r)) none) []) ∧ (∀ (a : Stmt) (b : Stmt) (r : Bool), F_ae0 n a b = some r → saysOf Tryz.prog 63 [.v (.agg [.int .i64 a.Op, .str a.Name, .int .i64 a.Max, .int .i64 a.A.Op, .int .i64 a.A.N, .str a.A.S, encL 4 enc_Expr a.A.Args, .int .i64 a.B.Op, .int .i64 a.B.N, .str a.B.S, encL 4 enc_Expr a.B.Args, encL 13 enc_Stmt a.Body, encL 13 enc_Stmt a.Else]), .v (.agg [.int .i64 b.Op, .str b.Name, .int .i64 b.Max, .int .i64 b.A.Op, .int .i64 b.A.N, .str b.A.S, encL 4 enc_Expr b.A.Args, .int .i64 b.B.Op, .int .i64 b.B.N, .str b.B.S, encL 4 enc_Expr b.B.Args, encL 13 enc_Stmt b.Body, encL 13 enc_Stmt b.Else])] [] [] (.ret (.v (.bool r)) none) []) := by
 induction n with
 | zero => exact ⟨fun s1 s2 r h => (by have h2 : (none : Option _) = some r := h; cases h2), fun a b r h => (by have h2 : (none : Option _) = some r := h; cases h2)⟩
 | succ m ih => exact ⟨fun s1 s2 r h => cB_slices_EqualFunc_Stmt m (F_g0 m) (F_ae0 m) ih.1 ih.2 s1 s2 r h, fun a b r h => cB_ast_equalStmt m (F_g0 m) (F_ae0 m) ih.1 ih.2 a b r h⟩
theorem c_g0 (n : Nat) (s1 : List Stmt) (s2 : List Stmt) (r : Bool) (h : F_g0 n s1 s2 = some r) : saysOf Tryz.prog 62 [.v (encL 13 enc_Stmt s1), .v (encL 13 enc_Stmt s2), .fn 63 []] [] [] (.ret (.v (.bool r)) none) [] := (cS_g0 n).1 s1 s2 r h
theorem c_ag0 (n : Nat) (s1 : List Param) (s2 : List Param) (r : Bool) (h : F_ag0 n s1 s2 = some r) : saysOf Tryz.prog 61 [.v (encL 2 enc_Param s1), .v (encL 2 enc_Param s2)] [] [] (.ret (.v (.bool r)) none) [] := by
 refine sw_ tt_ok Tryz.func61 rfl rfl rfl ?_
 unfold F_ag0 at h
 refine AWp.seq ?_
 refine AWp.rg tt_ok [] (by kernel_rfl) all_nil ?_
 refine AE.tn_ ?_
 refine AWp.seq ?_
 refine AWp.seq ?_
 refine AWp.rg tt_ok [] (by kernel_rfl) all_nil ?_
 refine AE.tn_ ?_
 refine AWp.cnd h (by kernel_rfl) ?_ ?_ <;> clear h <;> intro h
 ·refine AWp.seq ?_
  refine AWp.rg tt_ok [] (by kernel_rfl) all_nil ?_
  refine AE.tn_ ?_
  refine AWp.ret ?_
  obtain rfl := Option.some.inj h
  exact AE.tr_ (post_ret (by kernel_rfl))
 ·refine AWp.skip ?_
  refine AE.tn_ ?_
  refine AWp.cut (fun st' => restr [] [] 0 st'.env st'.H st'.nxt = some ⟨[], [], 0⟩ ∧ F_ag0_j1 n = some r) ?_ ?_
  ·refine AWp.seq ?_
   refine AWp.rg tt_ok [] (by kernel_rfl) all_nil ?_
   refine AE.tn_ ?_
   refine AWp.block ?_
   refine AWp.loop (σ := Int) (fun zm zs zst => restr [0, 1, 12, 13] [] 0 zst.env zst.H zst.nxt = some ⟨[(0, ⟨.v (encL 2 enc_Param s1), none⟩), (1, ⟨.v (encL 2 enc_Param s2), none⟩), (12, ⟨.v (.int .i64 ((s1.length : Nat) : Int)), none⟩), (13, ⟨.v (.int .i64 zs), none⟩)], [], 0⟩ ∧ F_ag0_l2 n s1 s2 zm zs = some r) ?_ (n := n) (s := 0) ⟨by kernel_rfl, h⟩
   clear h
   rintro m2 v5 st' ⟨hr', h⟩
   cases m2 with
   | zero =>
    have h2 : (none : Option _) = some r := h
    cases h2
   | succ m2 =>
    refine ⟨m2, rfl, AWp.drop _ _ _ hr' (by kernel_rfl) ?_⟩
    clear hr' st'
    replace h : F_ag0_b2 n s1 s2 (F_ag0_l2 n s1 s2 m2) v5 = some r := h
    unfold F_ag0_b2 at h
    refine AWp.seq ?_
    refine AWp.rg tt_ok [] (by kernel_rfl) all_nil ?_
    refine AE.tn_ ?_
    refine AWp.seq ?_
    refine AWp.cnd h (by kernel_rfl) ?_ ?_ <;> clear h <;> intro h
    ·refine AWp.skip ?_
     refine AE.tn_ ?_
     refine AWp.seq ?_
     refine AWp.block ?_
     refine AWp.seq ?_
     refine AWp.rg tt_ok [] (by kernel_rfl) all_nil ?_
     refine AE.tn_ ?_
     refine AWp.seq ?_
     obtain ⟨g6, h⟩ := ass_some h
     obtain ⟨g7, h⟩ := ass_some h
     refine AWp.rgD tt_ok mo_ok [(2, [.raw]), (6, [.raw])] (by kernel_rfl) (all_cons g7 (all_cons g6 all_nil)) ?_
     refine AE.tn_ ?_
     refine AWp.cnd h (by kernel_rfl) ?_ ?_ <;> clear h <;> intro h
     ·refine AWp.seq ?_
      refine AWp.rg tt_ok [] (by kernel_rfl) all_nil ?_
      refine AE.tn_ ?_
      refine AWp.ret ?_
      obtain rfl := Option.some.inj h
      exact AE.br_ (AE.tr_ (AE.tr_ (AE.br_ (AE.tr_ (post_ret (by kernel_rfl))))))
     ·refine AWp.skip ?_
      refine AE.bn_ (AE.tn_ ?_)
      refine AWp.rg tt_ok [] (by kernel_rfl) all_nil ?_
      exact AE.tn_ ⟨(IntKind.i64.wrap (v5 + 1)), by kernel_rfl, h⟩
    ·refine AWp.exit ?_
     exact AE.tx_ (AE.tx_ (AE.block_hit (AE.tn_ ⟨by kernel_rfl, h⟩)))
  ·clear h
   rintro st' ⟨hr', h⟩
   refine AWp.drop _ _ _ hr' (by kernel_rfl) ?_
   clear hr' st'
   unfold F_ag0_j1 at h
   refine AWp.seq ?_
   refine AWp.rg tt_ok [] (by kernel_rfl) all_nil ?_
   refine AE.tn_ ?_
   refine AWp.ret ?_
   obtain rfl := Option.some.inj h
   exact post_ret (by kernel_rfl)
theorem c_dr0 (n : Nat) (a : Proc) (b : Proc) (r : Bool) (h : F_dr0 n a b = some r) : saysOf Tryz.prog 28 [.v (.agg [.str a.Name, encL 2 enc_Param a.Params, encL 13 enc_Stmt a.Body]), .v (.agg [.str b.Name, encL 2 enc_Param b.Params, encL 13 enc_Stmt b.Body])] [] [] (.ret (.v (.bool r)) none) [] := by
 refine sw_ tt_ok Tryz.func28 rfl rfl rfl ?_
 unfold F_dr0 at h
 refine AWp.seq ?_
 refine AWp.rg tt_ok [] (by kernel_rfl) all_nil ?_
 refine AE.tn_ ?_
 refine AWp.seq ?_
 obtain ⟨r1, hr1, h⟩ := bind_some h
 have pr1 := fun c1 => c_ag0 n a.Params b.Params _ (cond_t c1 hr1)
 obtain ⟨r2, hr2, h⟩ := bind_some h
 have pr2 := fun c1 => c_g0 n a.Body b.Body _ (cond_t c1 hr2)
 refine AWp.rg tt_ok [orn1 pr1, orn1 pr2] (by kernel_rfl) (all_cons pr2 (all_cons pr1 all_nil)) ?_
 refine AE.tn_ ?_
 refine AWp.ret ?_
 obtain rfl := Option.some.inj h
 exact post_ret (by kernel_rfl)
theorem c_cg0 (n : Nat) (p : Proc) (r : Bool) (h : F_cg0 n p = some r) : saysOf Tryz.prog 8 [.v (.agg [.str p.Name, encL 2 enc_Param p.Params, encL 13 enc_Stmt p.Body])] [] [] (.ret (.v (.bool r)) none) [] := by
 refine sw_ tt_ok Tryz.func8 rfl rfl rfl ?_
 unfold F_cg0 at h
 refine AWp.seq ?_
 refine AWp.rg tt_ok [] (by kernel_rfl) all_nil ?_
 refine AE.tn_ ?_
 refine AWp.seq ?_
 refine AWp.seq ?_
 obtain ⟨r1, hr1, h⟩ := bind_some h
 have pr1 := c_as0 n p 100 _ hr1
 refine AWp.rg tt_ok [orn pr1 []] (by kernel_rfl) (all_cons pr1 all_nil) ?_
 refine AE.tn_ ?_
 refine AWp.cnd h (by kernel_rfl) ?_ ?_ <;> clear h <;> intro h
 ·refine AWp.seq ?_
  obtain ⟨r3, hr3, h⟩ := bind_some h
  have pr3 := c_co0 n _ hr3
  refine AWp.rg tt_ok [orn pr3 []] (by kernel_rfl) (all_cons pr3 all_nil) ?_
  refine AE.tn_ ?_
  refine AWp.ret ?_
  obtain rfl := Option.some.inj h
  exact AE.tr_ (post_ret (by kernel_rfl))
 ·refine AWp.skip ?_
  refine AE.tn_ ?_
  refine AWp.seq ?_
  obtain ⟨r4, hr4, h⟩ := bind_some h
  have pr4 := c_ap0 n p _ hr4
  refine AWp.rg tt_ok [orn pr4 []] (by kernel_rfl) (all_cons pr4 all_nil) ?_
  refine AE.tn_ ?_
  refine AWp.seq ?_
  refine AWp.seq ?_
  obtain ⟨r5, hr5, h⟩ := bind_some h
  have pr5 := c_bu0 n p _ hr5
  refine AWp.rg tt_ok [orn pr5 []] (by kernel_rfl) (all_cons pr5 all_nil) ?_
  refine AE.tn_ ?_
  refine AWp.cnd h (by kernel_rfl) ?_ ?_ <;> clear h <;> intro h
  ·refine AWp.seq ?_
   obtain ⟨r7, hr7, h⟩ := bind_some h
   have pr7 := fun c1 => c_co0 n _ (cond_t c1 hr7)
   refine AWp.rg tt_ok [orn1 pr7] (by kernel_rfl) (all_cons pr7 all_nil) ?_
   refine AE.tn_ ?_
   refine AWp.ret ?_
   obtain rfl := Option.some.inj h
   exact AE.tr_ (post_ret (by kernel_rfl))
  ·refine AWp.skip ?_
   refine AE.tn_ ?_
   refine AWp.seq ?_
   refine AWp.seq ?_
   refine AWp.rg tt_ok [] (by kernel_rfl) all_nil ?_
   refine AE.tn_ ?_
   refine AWp.cnd h (by kernel_rfl) ?_ ?_ <;> clear h <;> intro h
   ·refine AWp.seq ?_
    obtain ⟨r9, hr9, h⟩ := bind_some h
    have pr9 := c_co0 n _ hr9
    refine AWp.rg tt_ok [orn pr9 []] (by kernel_rfl) (all_cons pr9 all_nil) ?_
    refine AE.tn_ ?_
    refine AWp.ret ?_
    obtain rfl := Option.some.inj h
    exact AE.tr_ (post_ret (by kernel_rfl))
   ·refine AWp.skip ?_
    refine AE.tn_ ?_
    refine AWp.seq ?_
    obtain ⟨r10, hr10, h⟩ := bind_some h
    have pr10 := c_bo0 n r4 _ hr10
    refine AWp.rg tt_ok [orn pr10 []] (by kernel_rfl) (all_cons pr10 all_nil) ?_
    refine AE.tn_ ?_
    refine AWp.seq ?_
    obtain ⟨r11, hr11, h⟩ := bind_some h
    have pr11 := c_dr0 n p r10.1 _ hr11
    obtain ⟨r12, hr12, h⟩ := bind_some h
    have pr12 := fun c1 => c_co0 n _ (cond_t c1 hr12)
    refine AWp.rg tt_ok [orn pr11 [], orn1 pr12] (by kernel_rfl) (all_cons pr12 (all_cons pr11 all_nil)) ?_
    refine AE.tn_ ?_
    refine AWp.ret ?_
    obtain rfl := Option.some.inj h
    exact post_ret (by kernel_rfl)
end Go.Ab.Y
