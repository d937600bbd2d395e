/- Each function does what its plain function says. Printed by a program. -/
import Derived.Test.YtenhknjlgfakfaaGreatDoorCtrB
/- Printed by gen.py. -/
namespace Go.Ab.Y
open Go Go.Ab Go.Proofs
set_option linter.unusedVariables false
set_option maxRecDepth 20000
set_option linter.unusedVariables false
theorem c_au0 (n : Nat) (p : Proc) (r : (List UInt8)) (h : F_au0 n p = some r) : saysOf Tryz.prog 27 [.v (.agg [.str p.Name, encL 2 enc_Param p.Params, encL 13 enc_Stmt p.Body])] [] [] (.ret (.v (.str r)) none) [] := by
 refine sw_ tt_ok Tryz.func27 rfl rfl rfl ?_
 unfold F_au0 at h
 refine AWp.seq (AWp.rg tt_ok [] (by kernel_rfl) all_nil ?_)
 refine AE.tn_ (AWp.seq (AWp.seq ?_))
 obtain ⟨r1, hr1, h⟩ := bind_some h
 have pr1 := c_bw0 n p _ hr1
 refine AWp.rg tt_ok [orn pr1 []] (by kernel_rfl) (all_cons pr1 all_nil) ?_
 refine AE.tn_ (AWp.cnd h (by kernel_rfl) ?_ ?_) <;> clear h <;> intro h
 ·refine AWp.seq (AWp.rg tt_ok [] (by kernel_rfl) all_nil ?_)
  refine AE.tn_ (AWp.ret ?_)
  obtain rfl := Option.some.inj h
  exact AE.tr_ (post_ret (by kernel_rfl))
 ·refine AWp.skip (AE.tn_ (AWp.seq (AWp.rg tt_ok [] (by kernel_rfl) all_nil ?_)))
  refine AE.tn_ (AWp.cut (fun st' => ∃ (v19 : List (List UInt8)), restr [1, 3] [0] 1 st'.env st'.H st'.nxt = some ⟨[(1, ⟨.ptr 0 0, none⟩), (3, ⟨.v (encL 1 e_str v19), (some 9)⟩)], [(0, [⟨.v (.str p.Name), none⟩, ⟨.v (encL 2 enc_Param p.Params), none⟩, ⟨.v (encL 13 enc_Stmt p.Body), none⟩])], 1⟩ ∧ F_au0_j1 n p v19 = some r) ?_ ?_)
  ·refine AWp.seq (AWp.rg tt_ok [] (by kernel_rfl) all_nil ?_)
   refine AE.tn_ (AWp.block (AWp.loop (σ := Int × (List (List UInt8))) (fun zm zs zst => restr [1, 3, 11, 12, 13] [0] 1 zst.env zst.H zst.nxt = some ⟨[(1, ⟨.ptr 0 0, none⟩), (3, ⟨.v (encL 1 e_str zs.2), (some 9)⟩), (11, ⟨.v (encL 2 enc_Param p.Params), none⟩), (12, ⟨.v (.int .i64 ((p.Params.length : Nat) : Int)), none⟩), (13, ⟨.v (.int .i64 zs.1), none⟩)], [(0, [⟨.v (.str p.Name), none⟩, ⟨.v (encL 2 enc_Param p.Params), none⟩, ⟨.v (encL 13 enc_Stmt p.Body), none⟩])], 1⟩ ∧ F_au0_l2 n p zm zs.1 zs.2 = some r) ?_ (n := n) (s := (0, ([] : List (List UInt8)))) ⟨by kernel_rfl, h⟩))
   clear h
   rintro m2 ⟨v10, v11⟩ st' ⟨hr', h⟩
   cases m2 with
   | zero =>
    have h2 : (none : Option _) = some r := h
    cases h2
   | succ m2 =>
    refine ⟨m2, rfl, AWp.drop _ _ _ hr' (by kernel_rfl) ?_⟩
    clear hr' st'
    replace h : F_au0_b2 n p (F_au0_l2 n p m2) v10 v11 = some r := h
    unfold F_au0_b2 at h
    refine AWp.seq (AWp.rg tt_ok [] (by kernel_rfl) all_nil ?_)
    refine AE.tn_ (AWp.seq (AWp.cnd h (by kernel_rfl) ?_ ?_)) <;> clear h <;> intro h
    ·refine AWp.skip (AE.tn_ (AWp.seq (AWp.block (AWp.seq ?_))))
     obtain ⟨g12, h⟩ := ass_some h
     refine AWp.rg tt_ok [.raw] (by kernel_rfl) (all_cons g12 all_nil) ?_
     refine AE.tn_ ?_
     obtain ⟨g13, h⟩ := ass_some h
     obtain ⟨r14, hr14, h⟩ := bind_some h
     have pr14 := c_cx0 n ((p.Params.getD (v10).toNat default).Type_) _ hr14
     obtain ⟨g15, h⟩ := ass_some h
     obtain ⟨g16, h⟩ := ass_some h
     refine AWp.rgD tt_ok mo_ok [(6, [orn pr14 []]), (8, [.val (encL 1 e_str ([((((p.Params.getD (v10).toNat default).Name) ++ ([58, 32] : List UInt8)) ++ r14)] : List (List UInt8)))]), (9, [.val (encL 1 e_str (v11 ++ ([((((p.Params.getD (v10).toNat default).Name) ++ ([58, 32] : List UInt8)) ++ r14)] : List (List UInt8))))])] (by kernel_rfl) (all_cons (vimp_app (k := 1) (e := e_str) v11 ([((((p.Params.getD (v10).toNat default).Name) ++ ([58, 32] : List UInt8)) ++ r14)] : List (List UInt8))) (all_cons g16 (all_cons (vimp_litm (k := 1) (e := e_str) ([((((p.Params.getD (v10).toNat default).Name) ++ ([58, 32] : List UInt8)) ++ r14)] : List (List UInt8))) (all_cons g15 (all_cons pr14 (all_cons g13 all_nil)))))) ?_
     refine AE.bn_ (AE.tn_ ?_)
     refine AWp.rg tt_ok [] (by kernel_rfl) all_nil ?_
     exact AE.tn_ ⟨((IntKind.i64.wrap (v10 + 1)), (v11 ++ ([((((p.Params.getD (v10).toNat default).Name) ++ ([58, 32] : List UInt8)) ++ r14)] : List (List UInt8)))), by kernel_rfl, h⟩
    ·refine AWp.exit ?_
     exact AE.tx_ (AE.tx_ (AE.block_hit (AE.tn_ ⟨v11, by kernel_rfl, h⟩)))
  ·clear h
   rintro st' ⟨v19, hr', h⟩
   refine AWp.drop _ _ _ hr' (by kernel_rfl) ?_
   clear hr' st'
   unfold F_au0_j1 at h
   refine AWp.seq (AWp.rg tt_ok [.own] (by kernel_rfl) all_nil ?_)
   refine AE.tn_ (AWp.seq ?_)
   obtain ⟨r20, hr20, h⟩ := bind_some h
   have pr20 := c_da0 n v19 ([44, 32] : List UInt8) _ hr20
   obtain ⟨r21, hr21, h⟩ := bind_some h
   have pr21 := c_h0 n ([([112, 114, 111, 99, 32] : List UInt8), p.Name, ([40] : List UInt8), r20, ([41, 32, 123] : List UInt8)] : List (List UInt8)) ([] : List Int) 0 _ hr21
   refine AWp.rgD tt_ok mo_ok [(4, [orn pr20 []]), (5, [.val (encL 1 e_str ([([112, 114, 111, 99, 32] : List UInt8), p.Name, ([40] : List UInt8), r20, ([41, 32, 123] : List UInt8)] : List (List UInt8)))]), (6, [orc pr21 []])] (by kernel_rfl) (all_cons pr21 (all_cons (vimp_litm (k := 1) (e := e_str) ([([112, 114, 111, 99, 32] : List UInt8), p.Name, ([40] : List UInt8), r20, ([41, 32, 123] : List UInt8)] : List (List UInt8))) (all_cons pr20 all_nil))) ?_
   refine AE.tn_ (AWp.seq ?_)
   obtain ⟨r22, hr22, h⟩ := bind_some h
   have pr22 := c_d0 n p.Body r21 0 _ hr22
   refine AWp.rg tt_ok [orc pr22 []] (by kernel_rfl) (all_cons pr22 all_nil) ?_
   refine AE.tn_ (AWp.seq ?_)
   obtain ⟨r23, hr23, h⟩ := bind_some h
   have pr23 := c_h0 n ([([125] : List UInt8)] : List (List UInt8)) r22.1 r22.2 _ hr23
   refine AWp.rg tt_ok [.val (encL 1 e_str ([([125] : List UInt8)] : List (List UInt8))), orc pr23 []] (by kernel_rfl) (all_cons pr23 (all_cons (vimp_litm (k := 1) (e := e_str) ([([125] : List UInt8)] : List (List UInt8))) all_nil)) ?_
   refine AE.tn_ (AWp.seq ?_)
   obtain ⟨r24, hr24, h⟩ := bind_some h
   have pr24 := c_cm0 n r23 r22.2 _ hr24
   refine AWp.rg tt_ok [orc pr24 []] (by kernel_rfl) (all_cons pr24 all_nil) ?_
   refine AE.tn_ (AWp.ret ?_)
   obtain rfl := Option.some.inj h
   exact post_ret (by kernel_rfl)
theorem c_aq0 (n : Nat) (l : List Proc) (r : (List UInt8)) (h : F_aq0 n l = some r) : saysOf Tryz.prog 26 [.v (encL 3 enc_Proc l)] [] [] (.ret (.v (.str r)) none) [] := by
 refine sw_ tt_ok Tryz.func26 rfl rfl rfl ?_
 unfold F_aq0 at h
 refine AWp.seq (AWp.rg tt_ok [] (by kernel_rfl) all_nil ?_)
 refine AE.tn_ (AWp.seq (AWp.rg tt_ok [] (by kernel_rfl) all_nil ?_))
 refine AE.tn_ (AWp.cut (fun st' => ∃ (v13 : List (List UInt8)), restr [3] [] 0 st'.env st'.H st'.nxt = some ⟨[(3, ⟨.v (encL 1 e_str v13), (some 9)⟩)], [], 0⟩ ∧ F_aq0_j1 n v13 = some r) ?_ ?_)
 ·refine AWp.seq (AWp.rg tt_ok [] (by kernel_rfl) all_nil ?_)
  refine AE.tn_ (AWp.block (AWp.loop (σ := (List (List UInt8)) × Int) (fun zm zs zst => restr [3, 7, 8, 9] [] 0 zst.env zst.H zst.nxt = some ⟨[(3, ⟨.v (encL 1 e_str zs.1), (some 9)⟩), (7, ⟨.v (encL 3 enc_Proc l), none⟩), (8, ⟨.v (.int .i64 ((l.length : Nat) : Int)), none⟩), (9, ⟨.v (.int .i64 zs.2), none⟩)], [], 0⟩ ∧ F_aq0_l2 n l zm zs.1 zs.2 = some r) ?_ (n := n) (s := (([] : List (List UInt8)), 0)) ⟨by kernel_rfl, h⟩))
  clear h
  rintro m2 ⟨v6, v7⟩ st' ⟨hr', h⟩
  cases m2 with
  | zero =>
   have h2 : (none : Option _) = some r := h
   cases h2
  | succ m2 =>
   refine ⟨m2, rfl, AWp.drop _ _ _ hr' (by kernel_rfl) ?_⟩
   clear hr' st'
   replace h : F_aq0_b2 n l (F_aq0_l2 n l m2) v6 v7 = some r := h
   unfold F_aq0_b2 at h
   refine AWp.seq (AWp.rg tt_ok [] (by kernel_rfl) all_nil ?_)
   refine AE.tn_ (AWp.seq (AWp.cnd h (by kernel_rfl) ?_ ?_)) <;> clear h <;> intro h
   ·refine AWp.skip (AE.tn_ (AWp.seq (AWp.block (AWp.seq ?_))))
    obtain ⟨g8, h⟩ := ass_some h
    refine AWp.rg tt_ok [.raw] (by kernel_rfl) (all_cons g8 all_nil) ?_
    refine AE.tn_ (AWp.seq ?_)
    obtain ⟨r9, hr9, h⟩ := bind_some h
    have pr9 := c_au0 n (l.getD (v7).toNat default) _ hr9
    refine AWp.rg tt_ok [orn pr9 []] (by kernel_rfl) (all_cons pr9 all_nil) ?_
    refine AE.tn_ (AWp.seq (AWp.seq (AWp.rg tt_ok [] (by kernel_rfl) all_nil ?_)))
    refine AE.tn_ (AWp.cnd h (by kernel_rfl) ?_ ?_) <;> clear h <;> intro h
    ·refine AWp.seq (AWp.rg tt_ok [] (by kernel_rfl) all_nil ?_)
     refine AE.tn_ (AWp.ret ?_)
     obtain rfl := Option.some.inj h
     exact AE.tr_ (AE.br_ (AE.tr_ (AE.tr_ (AE.br_ (AE.tr_ (post_ret (by kernel_rfl)))))))
    ·refine AWp.skip (AE.tn_ ?_)
     obtain ⟨g10, h⟩ := ass_some h
     refine AWp.rg tt_ok [.val (encL 1 e_str ([r9] : List (List UInt8))), .val (encL 1 e_str (v6 ++ ([r9] : List (List UInt8))))] (by kernel_rfl) (all_cons (vimp_app (k := 1) (e := e_str) v6 ([r9] : List (List UInt8))) (all_cons g10 (all_cons (vimp_litm (k := 1) (e := e_str) ([r9] : List (List UInt8))) all_nil))) ?_
     refine AE.bn_ (AE.tn_ ?_)
     refine AWp.rg tt_ok [] (by kernel_rfl) all_nil ?_
     exact AE.tn_ ⟨((v6 ++ ([r9] : List (List UInt8))), (IntKind.i64.wrap (v7 + 1))), by kernel_rfl, h⟩
   ·refine AWp.exit ?_
    exact AE.tx_ (AE.tx_ (AE.block_hit (AE.tn_ ⟨v6, by kernel_rfl, h⟩)))
 ·clear h
  rintro st' ⟨v13, hr', h⟩
  refine AWp.drop _ _ _ hr' (by kernel_rfl) ?_
  clear hr' st'
  unfold F_aq0_j1 at h
  refine AWp.seq ?_
  obtain ⟨r14, hr14, h⟩ := bind_some h
  have pr14 := c_da0 n v13 ([10] : List UInt8) _ hr14
  refine AWp.rg tt_ok [orn pr14 []] (by kernel_rfl) (all_cons pr14 all_nil) ?_
  refine AE.tn_ (AWp.ret ?_)
  obtain rfl := Option.some.inj h
  exact post_ret (by kernel_rfl)
theorem cB_ref08_countBody (n : Nat) (f_t0 : (List Stmt) → Int → Option Int) (i_t0 : ∀ (l : List Stmt) (most : Int) (r : Int), f_t0 l most = some r → saysOf Tryz.prog 49 [.v (encL 13 enc_Stmt l), .v (.int .i64 most)] [] [] (.ret (.v (.int .i64 r)) none) []) (l : List Stmt) (most : Int) (r : Int) (h : B_t0 n f_t0 l most = some r) : saysOf Tryz.prog 49 [.v (encL 13 enc_Stmt l), .v (.int .i64 most)] [] [] (.ret (.v (.int .i64 r)) none) [] := by
 refine sw_ tt_ok Tryz.func49 rfl rfl rfl ?_
 unfold B_t0 at h
 refine AWp.seq (AWp.rg tt_ok [] (by kernel_rfl) all_nil ?_)
 refine AE.tn_ (AWp.seq (AWp.rg tt_ok [] (by kernel_rfl) all_nil ?_))
 refine AE.tn_ (AWp.cut (fun st' => ∃ (v25 : Int), restr [5] [] 0 st'.env st'.H st'.nxt = some ⟨[(5, ⟨.v (.int .i64 v25), none⟩)], [], 0⟩ ∧ F_t0_j1 n f_t0 v25 = some r) ?_ ?_)
 ·refine AWp.seq (AWp.rg tt_ok [] (by kernel_rfl) all_nil ?_)
  refine AE.tn_ (AWp.block (AWp.loop (σ := Int × Int) (fun zm zs zst => restr [0, 1, 5, 6] [] 0 zst.env zst.H zst.nxt = some ⟨[(0, ⟨.v (encL 13 enc_Stmt l), none⟩), (1, ⟨.v (.int .i64 most), none⟩), (5, ⟨.v (.int .i64 zs.1), none⟩), (6, ⟨.v (.int .i64 zs.2), none⟩)], [], 0⟩ ∧ F_t0_l2 n f_t0 l most zm zs.1 zs.2 = some r) ?_ (n := n) (s := (0, 0)) ⟨by kernel_rfl, h⟩))
  clear h
  rintro m2 ⟨v12, v13⟩ st' ⟨hr', h⟩
  cases m2 with
  | zero =>
   have h2 : (none : Option _) = some r := h
   cases h2
  | succ m2 =>
   refine ⟨m2, rfl, AWp.drop _ _ _ hr' (by kernel_rfl) ?_⟩
   clear hr' st'
   replace h : F_t0_b2 n f_t0 l most (F_t0_l2 n f_t0 l most m2) v12 v13 = some r := h
   unfold F_t0_b2 at h
   refine AWp.seq (AWp.seq (AWp.rg tt_ok [] (by kernel_rfl) all_nil ?_))
   refine AE.tn_ (AWp.cnd h (by kernel_rfl) ?_ ?_) <;> clear h <;> intro h
   ·refine AWp.skip (AE.tn_ (AWp.seq (AWp.block (AWp.seq ?_))))
    obtain ⟨g14, h⟩ := ass_some h
    refine AWp.rg tt_ok [orv (enc_vimp_Stmt (l.getD (v13).toNat default))] (by kernel_rfl) (all_cons (rfl : nzB 64 = true) (all_cons (enc_vimp_Stmt (l.getD (v13).toNat default)) (all_cons g14 all_nil))) ?_
    refine AE.tn_ (AWp.seq ?_)
    obtain ⟨g15, h⟩ := ass_some h
    obtain ⟨r16, hr16, h⟩ := bind_some h
    have pr16 := c_p0 n ((l.getD (v13).toNat default).A) (IntKind.i64.wrap (most - (IntKind.i64.wrap ((IntKind.i64.wrap (v12 + 1)) + (IntKind.i64.wrap (Int.tdiv ((((l.getD (v13).toNat default).Name).length : Nat) : Int) 64)))))) _ hr16
    refine AWp.rg tt_ok [orv (enc_vimp_Stmt (l.getD (v13).toNat default)), orn pr16 []] (by kernel_rfl) (all_cons pr16 (all_cons (enc_vimp_Stmt (l.getD (v13).toNat default)) (all_cons g15 all_nil))) ?_
    refine AE.tn_ (AWp.seq ?_)
    obtain ⟨g17, h⟩ := ass_some h
    obtain ⟨r18, hr18, h⟩ := bind_some h
    have pr18 := c_p0 n ((l.getD (v13).toNat default).B) (IntKind.i64.wrap (most - (IntKind.i64.wrap ((IntKind.i64.wrap ((IntKind.i64.wrap (v12 + 1)) + (IntKind.i64.wrap (Int.tdiv ((((l.getD (v13).toNat default).Name).length : Nat) : Int) 64)))) + r16)))) _ hr18
    refine AWp.rg tt_ok [orv (enc_vimp_Stmt (l.getD (v13).toNat default)), orn pr18 []] (by kernel_rfl) (all_cons pr18 (all_cons (enc_vimp_Stmt (l.getD (v13).toNat default)) (all_cons g17 all_nil))) ?_
    refine AE.tn_ (AWp.seq ?_)
    obtain ⟨g19, h⟩ := ass_some h
    obtain ⟨r20, hr20, h⟩ := bind_some h
    have pr20 := i_t0 ((l.getD (v13).toNat default).Body) (IntKind.i64.wrap (most - (IntKind.i64.wrap ((IntKind.i64.wrap ((IntKind.i64.wrap ((IntKind.i64.wrap (v12 + 1)) + (IntKind.i64.wrap (Int.tdiv ((((l.getD (v13).toNat default).Name).length : Nat) : Int) 64)))) + r16)) + r18)))) _ hr20
    refine AWp.rg tt_ok [orv (enc_vimp_Stmt (l.getD (v13).toNat default)), orn pr20 []] (by kernel_rfl) (all_cons pr20 (all_cons (enc_vimp_Stmt (l.getD (v13).toNat default)) (all_cons g19 all_nil))) ?_
    refine AE.tn_ ?_
    obtain ⟨g21, h⟩ := ass_some h
    obtain ⟨r22, hr22, h⟩ := bind_some h
    have pr22 := i_t0 ((l.getD (v13).toNat default).Else) (IntKind.i64.wrap (most - (IntKind.i64.wrap ((IntKind.i64.wrap ((IntKind.i64.wrap ((IntKind.i64.wrap ((IntKind.i64.wrap (v12 + 1)) + (IntKind.i64.wrap (Int.tdiv ((((l.getD (v13).toNat default).Name).length : Nat) : Int) 64)))) + r16)) + r18)) + r20)))) _ hr22
    refine AWp.rg tt_ok [orv (enc_vimp_Stmt (l.getD (v13).toNat default)), orn pr22 []] (by kernel_rfl) (all_cons pr22 (all_cons (enc_vimp_Stmt (l.getD (v13).toNat default)) (all_cons g21 all_nil))) ?_
    refine AE.bn_ (AE.tn_ ?_)
    refine AWp.rg tt_ok [] (by kernel_rfl) all_nil ?_
    exact AE.tn_ ⟨((IntKind.i64.wrap ((IntKind.i64.wrap ((IntKind.i64.wrap ((IntKind.i64.wrap ((IntKind.i64.wrap ((IntKind.i64.wrap (v12 + 1)) + (IntKind.i64.wrap (Int.tdiv ((((l.getD (v13).toNat default).Name).length : Nat) : Int) 64)))) + r16)) + r18)) + r20)) + r22)), (IntKind.i64.wrap (v13 + 1))), by kernel_rfl, h⟩
   ·refine AWp.exit ?_
    exact AE.tx_ (AE.tx_ (AE.block_hit (AE.tn_ ⟨v12, by kernel_rfl, h⟩)))
 ·clear h
  rintro st' ⟨v25, hr', h⟩
  refine AWp.drop _ _ _ hr' (by kernel_rfl) ?_
  clear hr' st'
  unfold F_t0_j1 at h
  refine AWp.seq (AWp.rg tt_ok [] (by kernel_rfl) all_nil ?_)
  refine AE.tn_ (AWp.ret ?_)
  obtain rfl := Option.some.inj h
  exact post_ret (by kernel_rfl)
theorem c_t0 (n : Nat) : ∀ (l : List Stmt) (most : Int) (r : Int), F_t0 n l most = some r → saysOf Tryz.prog 49 [.v (encL 13 enc_Stmt l), .v (.int .i64 most)] [] [] (.ret (.v (.int .i64 r)) none) [] := by
 induction n with
 | zero => intro l most r h; have h2 : (none : Option _) = some r := h; cases h2
 | succ m ih => intro l most r h; exact cB_ref08_countBody m (F_t0 m) ih l most r h
theorem c_av0 (n : Nat) (p : Proc) (most : Int) (r : Bool) (h : F_av0 n p most = some r) : saysOf Tryz.prog 24 [.v (.agg [.str p.Name, encL 2 enc_Param p.Params, encL 13 enc_Stmt p.Body]), .v (.int .i64 most)] [] [] (.ret (.v (.bool r)) none) [] := by
 refine sw_ tt_ok Tryz.func24 rfl rfl rfl ?_
 unfold F_av0 at h
 refine AWp.seq (AWp.rg tt_ok [] (by kernel_rfl) all_nil ?_)
 refine AE.tn_ (AWp.seq (AWp.seq (AWp.rg tt_ok [] (by kernel_rfl) all_nil ?_)))
 refine AE.tn_ (AWp.cnd h (by kernel_rfl) ?_ ?_) <;> clear h <;> intro h
 ·refine AWp.seq (AWp.rg tt_ok [] (by kernel_rfl) all_nil ?_)
  refine AE.tn_ (AWp.ret ?_)
  obtain rfl := Option.some.inj h
  exact AE.tr_ (post_ret (by kernel_rfl))
 ·refine AWp.skip (AE.tn_ (AWp.cut (fun st' => restr [1, 2] [0] 1 st'.env st'.H st'.nxt = some ⟨[(1, ⟨.v (.int .i64 most), none⟩), (2, ⟨.ptr 0 0, none⟩)], [(0, [⟨.v (.str p.Name), none⟩, ⟨.v (encL 2 enc_Param p.Params), none⟩, ⟨.v (encL 13 enc_Stmt p.Body), none⟩])], 1⟩ ∧ F_av0_j1 n most p = some r) ?_ ?_))
  ·refine AWp.seq (AWp.rg tt_ok [] (by kernel_rfl) all_nil ?_)
   refine AE.tn_ (AWp.block (AWp.loop (σ := Int) (fun zm zs zst => restr [1, 2, 5] [0] 1 zst.env zst.H zst.nxt = some ⟨[(1, ⟨.v (.int .i64 most), none⟩), (2, ⟨.ptr 0 0, none⟩), (5, ⟨.v (.int .i64 zs), none⟩)], [(0, [⟨.v (.str p.Name), none⟩, ⟨.v (encL 2 enc_Param p.Params), none⟩, ⟨.v (encL 13 enc_Stmt p.Body), none⟩])], 1⟩ ∧ F_av0_l2 n most p zm zs = some r) ?_ (n := n) (s := 0) ⟨by kernel_rfl, h⟩))
   clear h
   rintro m2 v4 st' ⟨hr', h⟩
   cases m2 with
   | zero =>
    have h2 : (none : Option _) = some r := h
    cases h2
   | succ m2 =>
    refine ⟨m2, rfl, AWp.drop _ _ _ hr' (by kernel_rfl) ?_⟩
    clear hr' st'
    replace h : F_av0_b2 n most p (F_av0_l2 n most p m2) v4 = some r := h
    unfold F_av0_b2 at h
    refine AWp.seq (AWp.seq (AWp.rg tt_ok [] (by kernel_rfl) all_nil ?_))
    refine AE.tn_ (AWp.cnd h (by kernel_rfl) ?_ ?_) <;> clear h <;> intro h
    ·refine AWp.skip (AE.tn_ (AWp.seq (AWp.block (AWp.seq ?_))))
     obtain ⟨g5, h⟩ := ass_some h
     refine AWp.rg tt_ok [.raw] (by kernel_rfl) (all_cons g5 all_nil) ?_
     refine AE.tn_ (AWp.cnd h (by kernel_rfl) ?_ ?_) <;> clear h <;> intro h
     ·refine AWp.seq (AWp.rg tt_ok [] (by kernel_rfl) all_nil ?_)
      refine AE.tn_ (AWp.ret ?_)
      obtain rfl := Option.some.inj h
      exact AE.br_ (AE.tr_ (AE.tr_ (AE.br_ (AE.tr_ (post_ret (by kernel_rfl))))))
     ·refine AWp.skip (AE.bn_ (AE.tn_ ?_))
      refine AWp.rg tt_ok [] (by kernel_rfl) all_nil ?_
      exact AE.tn_ ⟨(IntKind.i64.wrap (v4 + 1)), by kernel_rfl, h⟩
    ·refine AWp.exit ?_
     exact AE.tx_ (AE.tx_ (AE.block_hit (AE.tn_ ⟨by kernel_rfl, h⟩)))
  ·clear h
   rintro st' ⟨hr', h⟩
   refine AWp.drop _ _ _ hr' (by kernel_rfl) ?_
   clear hr' st'
   unfold F_av0_j1 at h
   refine AWp.seq ?_
   obtain ⟨r7, hr7, h⟩ := bind_some h
   have pr7 := c_t0 n p.Body most _ hr7
   refine AWp.rg tt_ok [orn pr7 []] (by kernel_rfl) (all_cons pr7 all_nil) ?_
   refine AE.tn_ (AWp.ret ?_)
   obtain rfl := Option.some.inj h
   exact post_ret (by kernel_rfl)
theorem c_g0 (n : Nat) (l : List Proc) (r : Bool) (h : F_g0 n l = some r) : saysOf Tryz.prog 7 [.v (encL 3 enc_Proc l)] [] [] (.ret (.v (.bool r)) none) [] := by
 refine sw_ tt_ok Tryz.func7 rfl rfl rfl ?_
 unfold F_g0 at h
 refine AWp.seq (AWp.rg tt_ok [] (by kernel_rfl) all_nil ?_)
 refine AE.tn_ (AWp.seq (AWp.seq (AWp.rg tt_ok [] (by kernel_rfl) all_nil ?_)))
 refine AE.tn_ (AWp.cnd h (by kernel_rfl) ?_ ?_) <;> clear h <;> intro h
 ·refine AWp.seq ?_
  obtain ⟨r2, hr2, h⟩ := bind_some h
  have pr2 := c_cd0 n _ hr2
  refine AWp.rg tt_ok [orn pr2 []] (by kernel_rfl) (all_cons pr2 all_nil) ?_
  refine AE.tn_ (AWp.ret ?_)
  obtain rfl := Option.some.inj h
  exact AE.tr_ (post_ret (by kernel_rfl))
 ·refine AWp.skip (AE.tn_ (AWp.cut (fun st' => restr [0] [] 0 st'.env st'.H st'.nxt = some ⟨[(0, ⟨.v (encL 3 enc_Proc l), none⟩)], [], 0⟩ ∧ F_g0_j1 n l = some r) ?_ ?_))
  ·refine AWp.seq (AWp.rg tt_ok [] (by kernel_rfl) all_nil ?_)
   refine AE.tn_ (AWp.block (AWp.loop (σ := Int) (fun zm zs zst => restr [0, 3] [] 0 zst.env zst.H zst.nxt = some ⟨[(0, ⟨.v (encL 3 enc_Proc l), none⟩), (3, ⟨.v (.int .i64 zs), none⟩)], [], 0⟩ ∧ F_g0_l2 n l zm zs = some r) ?_ (n := n) (s := 0) ⟨by kernel_rfl, h⟩))
   clear h
   rintro m2 v18 st' ⟨hr', h⟩
   cases m2 with
   | zero =>
    have h2 : (none : Option _) = some r := h
    cases h2
   | succ m2 =>
    refine ⟨m2, rfl, AWp.drop _ _ _ hr' (by kernel_rfl) ?_⟩
    clear hr' st'
    replace h : F_g0_b2 n l (F_g0_l2 n l m2) v18 = some r := h
    unfold F_g0_b2 at h
    refine AWp.seq (AWp.seq (AWp.rg tt_ok [] (by kernel_rfl) all_nil ?_))
    refine AE.tn_ (AWp.cnd h (by kernel_rfl) ?_ ?_) <;> clear h <;> intro h
    ·refine AWp.skip (AE.tn_ (AWp.cut (fun st' => restr [0, 3] [] 0 st'.env st'.H st'.nxt = some ⟨[(0, ⟨.v (encL 3 enc_Proc l), none⟩), (3, ⟨.v (.int .i64 v18), none⟩)], [], 0⟩ ∧ F_g0_j3 n (F_g0_l2 n l m2) l v18 = some r) ?_ ?_))
     ·refine AWp.block (AWp.seq (AWp.seq ?_))
      obtain ⟨g19, h⟩ := ass_some h
      obtain ⟨r20, hr20, h⟩ := bind_some h
      have pr20 := c_av0 n (l.getD (v18).toNat default) 60 _ hr20
      obtain ⟨g21, h⟩ := ass_some h
      obtain ⟨r22, hr22, h⟩ := bind_some h
      have pr22 := fun c1 => c_bw0 n (l.getD (v18).toNat default) _ (cond_t (not_t c1) hr22)
      refine AWp.rg tt_ok [.raw, orn pr20 [], .raw, orn1 pr22] (by kernel_rfl) (all_cons pr22 (all_cons (orF g21) (all_cons pr20 (all_cons g19 all_nil)))) ?_
      refine AE.tn_ (AWp.cnd h (by kernel_rfl) ?_ ?_) <;> clear h <;> intro h
      ·refine AWp.seq ?_
       obtain ⟨r23, hr23, h⟩ := bind_some h
       have pr23 := c_cd0 n _ hr23
       refine AWp.rg tt_ok [orn pr23 []] (by kernel_rfl) (all_cons pr23 all_nil) ?_
       refine AE.tn_ (AWp.ret ?_)
       obtain rfl := Option.some.inj h
       exact AE.tr_ (AE.br_ (AE.tr_ (AE.tr_ (AE.br_ (AE.tr_ (post_ret (by kernel_rfl)))))))
      ·refine AWp.skip (AE.tn_ (AWp.seq (AWp.rg tt_ok [] (by kernel_rfl) all_nil ?_)))
       refine AE.tn_ (AWp.block (AWp.loop (σ := Int) (fun zm zs zst => restr [0, 3, 4] [] 0 zst.env zst.H zst.nxt = some ⟨[(0, ⟨.v (encL 3 enc_Proc l), none⟩), (3, ⟨.v (.int .i64 v18), none⟩), (4, ⟨.v (.int .i64 zs), none⟩)], [], 0⟩ ∧ F_g0_l4 n (F_g0_l2 n l m2) l v18 zm zs = some r) ?_ (n := n) (s := 0) ⟨by kernel_rfl, h⟩))
       clear h
       rintro m4 v28 st' ⟨hr', h⟩
       cases m4 with
       | zero =>
        have h2 : (none : Option _) = some r := h
        cases h2
       | succ m4 =>
        refine ⟨m4, rfl, AWp.drop _ _ _ hr' (by kernel_rfl) ?_⟩
        clear hr' st'
        replace h : F_g0_b4 n (F_g0_l2 n l m2) l v18 (F_g0_l4 n (F_g0_l2 n l m2) l v18 m4) v28 = some r := h
        unfold F_g0_b4 at h
        refine AWp.seq (AWp.seq (AWp.rg tt_ok [] (by kernel_rfl) all_nil ?_))
        refine AE.tn_ (AWp.cnd h (by kernel_rfl) ?_ ?_) <;> clear h <;> intro h
        ·refine AWp.skip (AE.tn_ (AWp.seq (AWp.block (AWp.seq ?_))))
         obtain ⟨g29, h⟩ := ass_some h
         obtain ⟨g30, h⟩ := ass_some h
         refine AWp.rgD tt_ok mo_ok [(2, [.raw]), (7, [.raw])] (by kernel_rfl) (all_cons g30 (all_cons g29 all_nil)) ?_
         refine AE.tn_ (AWp.cnd h (by kernel_rfl) ?_ ?_) <;> clear h <;> intro h
         ·refine AWp.seq ?_
          obtain ⟨r31, hr31, h⟩ := bind_some h
          have pr31 := c_cd0 n _ hr31
          refine AWp.rg tt_ok [orn pr31 []] (by kernel_rfl) (all_cons pr31 all_nil) ?_
          refine AE.tn_ (AWp.ret ?_)
          obtain rfl := Option.some.inj h
          exact AE.br_ (AE.tr_ (AE.tr_ (AE.br_ (AE.br_ (AE.tr_ (AE.tr_ (AE.br_ (AE.tr_ (post_ret (by kernel_rfl))))))))))
         ·refine AWp.skip (AE.bn_ (AE.tn_ ?_))
          refine AWp.rg tt_ok [] (by kernel_rfl) all_nil ?_
          exact AE.tn_ ⟨(IntKind.i64.wrap (v28 + 1)), by kernel_rfl, h⟩
        ·refine AWp.exit ?_
         exact AE.tx_ (AE.tx_ (AE.block_hit (AE.bn_ (AE.tn_ ⟨by kernel_rfl, h⟩))))
     ·clear h
      rintro st' ⟨hr', h⟩
      refine AWp.drop _ _ _ hr' (by kernel_rfl) ?_
      clear hr' st'
      unfold F_g0_j3 at h
      refine AWp.rg tt_ok [] (by kernel_rfl) all_nil ?_
      exact AE.tn_ ⟨(IntKind.i64.wrap (v18 + 1)), by kernel_rfl, h⟩
    ·refine AWp.exit ?_
     exact AE.tx_ (AE.tx_ (AE.block_hit (AE.tn_ ⟨by kernel_rfl, h⟩)))
  ·clear h
   rintro st' ⟨hr', h⟩
   refine AWp.drop _ _ _ hr' (by kernel_rfl) ?_
   clear hr' st'
   unfold F_g0_j1 at h
   refine AWp.seq ?_
   obtain ⟨r34, hr34, h⟩ := bind_some h
   have pr34 := c_aq0 n l _ hr34
   refine AWp.rg tt_ok [orn pr34 []] (by kernel_rfl) (all_cons pr34 all_nil) ?_
   refine AE.tn_ (AWp.seq (AWp.seq (AWp.rg tt_ok [] (by kernel_rfl) all_nil ?_)))
   refine AE.tn_ (AWp.cnd h (by kernel_rfl) ?_ ?_) <;> clear h <;> intro h
   ·refine AWp.seq ?_
    obtain ⟨r36, hr36, h⟩ := bind_some h
    have pr36 := c_cd0 n _ hr36
    refine AWp.rg tt_ok [orn pr36 []] (by kernel_rfl) (all_cons pr36 all_nil) ?_
    refine AE.tn_ (AWp.ret ?_)
    obtain rfl := Option.some.inj h
    exact AE.tr_ (post_ret (by kernel_rfl))
   ·refine AWp.skip (AE.tn_ (AWp.seq ?_))
    obtain ⟨r37, hr37, h⟩ := bind_some h
    have pr37 := c_bm0 n r34 _ hr37
    refine AWp.rg tt_ok [orn pr37 []] (by kernel_rfl) (all_cons pr37 all_nil) ?_
    refine AE.tn_ (AWp.seq ?_)
    obtain ⟨r38, hr38, h⟩ := bind_some h
    have pr38 := c_bh0 n l r37.1 _ hr38
    obtain ⟨r39, hr39, h⟩ := bind_some h
    have pr39 := fun c1 => c_cd0 n _ (cond_t c1 hr39)
    refine AWp.rg tt_ok [orn pr38 [], orn1 pr39] (by kernel_rfl) (all_cons pr39 (all_cons pr38 all_nil)) ?_
    refine AE.tn_ (AWp.ret ?_)
    obtain rfl := Option.some.inj h
    exact post_ret (by kernel_rfl)
end Go.Ab.Y
