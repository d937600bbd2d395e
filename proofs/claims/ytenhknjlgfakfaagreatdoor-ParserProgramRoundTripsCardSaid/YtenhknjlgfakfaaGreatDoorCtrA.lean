/- Each function does what its plain function says. Printed by a program. -/
import Derived.Test.YtenhknjlgfakfaaGreatDoorFns
/- Printed by gen.py. -/
namespace Go.Ab.Y
open Go Go.Ab Go.Proofs
set_option linter.unusedVariables false
set_option maxRecDepth 20000
set_option linter.unusedVariables false
theorem c_dx0 (n : Nat) (op : Int) (r : Int) (h : F_dx0 n op = some r) : saysOf Tryz.prog 141 [.v (.int .i64 op)] [] [] (.ret (.v (.int .i64 r)) none) [] := by
 refine sw_ tt_ok Tryz.func141 rfl rfl rfl ?_
 unfold F_dx0 at h
 refine AWp.seq (AWp.rg tt_ok [] (by kernel_rfl) all_nil ?_)
 refine AE.tn_ (AWp.seq (AWp.block (AWp.seq (AWp.rg tt_ok [] (by kernel_rfl) all_nil ?_))))
 refine AE.tn_ (AWp.cnd h (by kernel_rfl) ?_ ?_) <;> clear h <;> intro h
 ·refine AWp.seq (AWp.rg tt_ok [] (by kernel_rfl) all_nil ?_)
  refine AE.tn_ (AWp.ret ?_)
  obtain rfl := Option.some.inj h
  exact AE.br_ (AE.tr_ (post_ret (by kernel_rfl)))
 ·refine AWp.seq (AWp.rg tt_ok [] (by kernel_rfl) all_nil ?_)
  refine AE.tn_ (AWp.cnd h (by kernel_rfl) ?_ ?_) <;> clear h <;> intro h
  ·refine AWp.seq (AWp.rg tt_ok [] (by kernel_rfl) all_nil ?_)
   refine AE.tn_ (AWp.ret ?_)
   obtain rfl := Option.some.inj h
   exact AE.br_ (AE.tr_ (post_ret (by kernel_rfl)))
  ·refine AWp.seq (AWp.rg tt_ok [] (by kernel_rfl) all_nil ?_)
   refine AE.tn_ (AWp.cnd h (by kernel_rfl) ?_ ?_) <;> clear h <;> intro h
   ·refine AWp.seq (AWp.rg tt_ok [] (by kernel_rfl) all_nil ?_)
    refine AE.tn_ (AWp.ret ?_)
    obtain rfl := Option.some.inj h
    exact AE.br_ (AE.tr_ (post_ret (by kernel_rfl)))
   ·refine AWp.skip (AE.bn_ (AE.tn_ ?_))
    refine AWp.seq (AWp.rg tt_ok [] (by kernel_rfl) all_nil ?_)
    refine AE.tn_ (AWp.ret ?_)
    obtain rfl := Option.some.inj h
    exact post_ret (by kernel_rfl)
theorem c_bo0 (n : Nat) (s : List UInt8) (r : Bool) (h : F_bo0 n s = some r) : saysOf Tryz.prog 142 [.v (.str s)] [] [] (.ret (.v (.bool r)) none) [] := by
 refine sw_ tt_ok Tryz.func142 rfl rfl rfl ?_
 unfold F_bo0 at h
 refine AWp.seq (AWp.rg tt_ok [] (by kernel_rfl) all_nil ?_)
 refine AE.tn_ (AWp.cut (fun st' => restr [0] [] 0 st'.env st'.H st'.nxt = some ⟨[(0, ⟨.v (.str s), none⟩)], [], 0⟩ ∧ F_bo0_j1 n s = some r) ?_ ?_)
 ·refine AWp.seq (AWp.rg tt_ok [] (by kernel_rfl) all_nil ?_)
  refine AE.tn_ (AWp.block (AWp.loop (σ := Int) (fun zm zs zst => restr [0, 3] [] 0 zst.env zst.H zst.nxt = some ⟨[(0, ⟨.v (.str s), none⟩), (3, ⟨.v (.int .i64 zs), none⟩)], [], 0⟩ ∧ F_bo0_l2 n s zm zs = some r) ?_ (n := n) (s := 0) ⟨by kernel_rfl, h⟩))
  clear h
  rintro m2 v4 st' ⟨hr', h⟩
  cases m2 with
  | zero =>
   have h2 : (none : Option _) = some r := h
   cases h2
  | succ m2 =>
   refine ⟨m2, rfl, AWp.drop _ _ _ hr' (by kernel_rfl) ?_⟩
   clear hr' st'
   replace h : F_bo0_b2 n s (F_bo0_l2 n s m2) v4 = some r := h
   unfold F_bo0_b2 at h
   refine AWp.seq (AWp.seq (AWp.rg tt_ok [] (by kernel_rfl) all_nil ?_))
   refine AE.tn_ (AWp.cnd h (by kernel_rfl) ?_ ?_) <;> clear h <;> intro h
   ·refine AWp.skip (AE.tn_ (AWp.seq (AWp.block (AWp.seq ?_))))
    obtain ⟨g5, h⟩ := ass_some h
    obtain ⟨g6, h⟩ := ass_some h
    refine AWp.rg tt_ok [] (by kernel_rfl) (all_cons (orF g6) (all_cons g5 all_nil)) ?_
    refine AE.tn_ (AWp.cnd h (by kernel_rfl) ?_ ?_) <;> clear h <;> intro h
    ·refine AWp.seq (AWp.rg tt_ok [] (by kernel_rfl) all_nil ?_)
     refine AE.tn_ (AWp.ret ?_)
     obtain rfl := Option.some.inj h
     exact AE.br_ (AE.tr_ (AE.tr_ (AE.br_ (AE.tr_ (post_ret (by kernel_rfl))))))
    ·refine AWp.skip (AE.bn_ (AE.tn_ ?_))
     refine AWp.rg tt_ok [] (by kernel_rfl) all_nil ?_
     exact AE.tn_ ⟨(IntKind.i64.wrap (v4 + 1)), by kernel_rfl, h⟩
   ·refine AWp.exit ?_
    exact AE.tx_ (AE.tx_ (AE.block_hit (AE.tn_ ⟨by kernel_rfl, h⟩)))
 ·clear h
  rintro st' ⟨hr', h⟩
  refine AWp.drop _ _ _ hr' (by kernel_rfl) ?_
  clear hr' st'
  unfold F_bo0_j1 at h
  refine AWp.seq (AWp.rg tt_ok [] (by kernel_rfl) all_nil ?_)
  refine AE.tn_ (AWp.ret ?_)
  obtain rfl := Option.some.inj h
  exact post_ret (by kernel_rfl)
theorem c_z0 (n : Nat) (s : List UInt8) (r : Bool) (h : F_z0 n s = some r) : saysOf Tryz.prog 105 [.v (.str s)] [] [] (.ret (.v (.bool r)) none) [] := by
 refine sw_ tt_ok Tryz.func105 rfl rfl rfl ?_
 unfold F_z0 at h
 refine AWp.seq (AWp.rg tt_ok [] (by kernel_rfl) all_nil ?_)
 refine AE.tn_ (AWp.cut (fun st' => restr [] [] 0 st'.env st'.H st'.nxt = some ⟨[], [], 0⟩ ∧ F_z0_j1 n = some r) ?_ ?_)
 ·refine AWp.seq (AWp.rg tt_ok [] (by kernel_rfl) all_nil ?_)
  refine AE.tn_ (AWp.block (AWp.cut (fun st' => ∃ (v1 : Bool), restr [4] [] 0 st'.env st'.H st'.nxt = some ⟨[(4, ⟨.v (.bool v1), none⟩)], [], 0⟩ ∧ F_z0_j2 n v1 = some r) ?_ ?_))
  ·refine AWp.seq (AWp.rg tt_ok [] (by kernel_rfl) all_nil ?_)
   refine AE.tn_ (AWp.cnd h (by kernel_rfl) ?_ ?_) <;> clear h <;> intro h
   ·exact AWp.skip (AE.tn_ ⟨(decide (s = ([112, 114, 111, 99] : List UInt8))), by kernel_rfl, h⟩)
   ·refine AWp.seq (AWp.rg tt_ok [] (by kernel_rfl) all_nil ?_)
    refine AE.tn_ (AWp.cnd h (by kernel_rfl) ?_ ?_) <;> clear h <;> intro h
    ·exact AWp.skip (AE.tn_ ⟨(decide (s = ([108, 101, 116] : List UInt8))), by kernel_rfl, h⟩)
    ·refine AWp.seq (AWp.rg tt_ok [] (by kernel_rfl) all_nil ?_)
     refine AE.tn_ (AWp.cnd h (by kernel_rfl) ?_ ?_) <;> clear h <;> intro h
     ·exact AWp.skip (AE.tn_ ⟨(decide (s = ([112, 117, 116] : List UInt8))), by kernel_rfl, h⟩)
     ·refine AWp.seq (AWp.rg tt_ok [] (by kernel_rfl) all_nil ?_)
      refine AE.tn_ (AWp.cnd h (by kernel_rfl) ?_ ?_) <;> clear h <;> intro h
      ·exact AWp.skip (AE.tn_ ⟨(decide (s = ([100, 101, 108, 101, 116, 101] : List UInt8))), by kernel_rfl, h⟩)
      ·refine AWp.seq (AWp.rg tt_ok [] (by kernel_rfl) all_nil ?_)
       refine AE.tn_ (AWp.cnd h (by kernel_rfl) ?_ ?_) <;> clear h <;> intro h
       ·exact AWp.skip (AE.tn_ ⟨(decide (s = ([105, 102] : List UInt8))), by kernel_rfl, h⟩)
       ·refine AWp.seq (AWp.rg tt_ok [] (by kernel_rfl) all_nil ?_)
        refine AE.tn_ (AWp.cnd h (by kernel_rfl) ?_ ?_) <;> clear h <;> intro h
        ·exact AWp.skip (AE.tn_ ⟨(decide (s = ([101, 108, 115, 101] : List UInt8))), by kernel_rfl, h⟩)
        ·refine AWp.seq (AWp.rg tt_ok [] (by kernel_rfl) all_nil ?_)
         refine AE.tn_ (AWp.cnd h (by kernel_rfl) ?_ ?_) <;> clear h <;> intro h
         ·exact AWp.skip (AE.tn_ ⟨(decide (s = ([102, 111, 114] : List UInt8))), by kernel_rfl, h⟩)
         ·refine AWp.seq (AWp.rg tt_ok [] (by kernel_rfl) all_nil ?_)
          refine AE.tn_ (AWp.cnd h (by kernel_rfl) ?_ ?_) <;> clear h <;> intro h
          ·exact AWp.skip (AE.tn_ ⟨(decide (s = ([116, 111] : List UInt8))), by kernel_rfl, h⟩)
          ·refine AWp.seq (AWp.rg tt_ok [] (by kernel_rfl) all_nil ?_)
           refine AE.tn_ (AWp.cnd h (by kernel_rfl) ?_ ?_) <;> clear h <;> intro h
           ·exact AWp.skip (AE.tn_ ⟨(decide (s = ([109, 97, 120] : List UInt8))), by kernel_rfl, h⟩)
           ·refine AWp.seq (AWp.rg tt_ok [] (by kernel_rfl) all_nil ?_)
            refine AE.tn_ (AWp.cnd h (by kernel_rfl) ?_ ?_) <;> clear h <;> intro h
            ·exact AWp.skip (AE.tn_ ⟨(decide (s = ([101, 109, 105, 116] : List UInt8))), by kernel_rfl, h⟩)
            ·refine AWp.seq (AWp.rg tt_ok [] (by kernel_rfl) all_nil ?_)
             refine AE.tn_ (AWp.cnd h (by kernel_rfl) ?_ ?_) <;> clear h <;> intro h
             ·exact AWp.skip (AE.tn_ ⟨(decide (s = ([97, 98, 111, 114, 116] : List UInt8))), by kernel_rfl, h⟩)
             ·refine AWp.seq (AWp.rg tt_ok [] (by kernel_rfl) all_nil ?_)
              refine AE.tn_ (AWp.cnd h (by kernel_rfl) ?_ ?_) <;> clear h <;> intro h
              ·exact AWp.skip (AE.tn_ ⟨(decide (s = ([110, 111, 116] : List UInt8))), by kernel_rfl, h⟩)
              ·refine AWp.seq (AWp.rg tt_ok [] (by kernel_rfl) all_nil ?_)
               refine AE.tn_ (AWp.cnd h (by kernel_rfl) ?_ ?_) <;> clear h <;> intro h
               ·exact AWp.skip (AE.tn_ ⟨(decide (s = ([97, 110, 100] : List UInt8))), by kernel_rfl, h⟩)
               ·refine AWp.seq (AWp.rg tt_ok [] (by kernel_rfl) all_nil ?_)
                refine AE.tn_ (AWp.cnd h (by kernel_rfl) ?_ ?_) <;> clear h <;> intro h
                ·exact AWp.skip (AE.tn_ ⟨(decide (s = ([111, 114] : List UInt8))), by kernel_rfl, h⟩)
                ·refine AWp.seq (AWp.rg tt_ok [] (by kernel_rfl) all_nil ?_)
                 refine AE.tn_ (AWp.cnd h (by kernel_rfl) ?_ ?_) <;> clear h <;> intro h
                 ·exact AWp.skip (AE.tn_ ⟨(decide (s = ([105, 110, 116] : List UInt8))), by kernel_rfl, h⟩)
                 ·refine AWp.seq (AWp.rg tt_ok [] (by kernel_rfl) all_nil ?_)
                  refine AE.tn_ (AWp.cnd h (by kernel_rfl) ?_ ?_) <;> clear h <;> intro h
                  ·exact AWp.skip (AE.tn_ ⟨(decide (s = ([115, 116, 114] : List UInt8))), by kernel_rfl, h⟩)
                  ·refine AWp.seq (AWp.rg tt_ok [] (by kernel_rfl) all_nil ?_)
                   refine AE.tn_ (AWp.cnd h (by kernel_rfl) ?_ ?_) <;> clear h <;> intro h
                   ·exact AWp.skip (AE.tn_ ⟨(decide (s = ([98, 111, 111, 108] : List UInt8))), by kernel_rfl, h⟩)
                   ·refine AWp.seq (AWp.rg tt_ok [] (by kernel_rfl) all_nil ?_)
                    refine AE.tn_ (AWp.cnd h (by kernel_rfl) ?_ ?_) <;> clear h <;> intro h
                    ·exact AWp.skip (AE.tn_ ⟨(decide (s = ([116, 101, 120, 116] : List UInt8))), by kernel_rfl, h⟩)
                    ·refine AWp.seq (AWp.rg tt_ok [] (by kernel_rfl) all_nil ?_)
                     refine AE.tn_ (AWp.cnd h (by kernel_rfl) ?_ ?_) <;> clear h <;> intro h
                     ·exact AWp.skip (AE.tn_ ⟨(decide (s = ([108, 101, 110] : List UInt8))), by kernel_rfl, h⟩)
                     ·refine AWp.seq (AWp.rg tt_ok [] (by kernel_rfl) all_nil ?_)
                      refine AE.tn_ (AWp.cnd h (by kernel_rfl) ?_ ?_) <;> clear h <;> intro h
                      ·exact AWp.skip (AE.tn_ ⟨(decide (s = ([103, 101, 116, 105, 110, 116] : List UInt8))), by kernel_rfl, h⟩)
                      ·refine AWp.seq (AWp.rg tt_ok [] (by kernel_rfl) all_nil ?_)
                       refine AE.tn_ (AWp.cnd h (by kernel_rfl) ?_ ?_) <;> clear h <;> intro h
                       ·exact AWp.skip (AE.tn_ ⟨(decide (s = ([103, 101, 116, 115, 116, 114] : List UInt8))), by kernel_rfl, h⟩)
                       ·refine AWp.seq (AWp.rg tt_ok [] (by kernel_rfl) all_nil ?_)
                        refine AE.tn_ (AWp.cnd h (by kernel_rfl) ?_ ?_) <;> clear h <;> intro h
                        ·exact AWp.skip (AE.tn_ ⟨(decide (s = ([104, 97, 115] : List UInt8))), by kernel_rfl, h⟩)
                        ·refine AWp.seq (AWp.rg tt_ok [] (by kernel_rfl) all_nil ?_)
                         refine AE.tn_ (AWp.cnd h (by kernel_rfl) ?_ ?_) <;> clear h <;> intro h
                         ·exact AWp.skip (AE.tn_ ⟨(decide (s = ([110, 111, 119] : List UInt8))), by kernel_rfl, h⟩)
                         ·refine AWp.seq (AWp.rg tt_ok [] (by kernel_rfl) all_nil ?_)
                          refine AE.tn_ (AWp.cnd h (by kernel_rfl) ?_ ?_) <;> clear h <;> intro h
                          ·exact AWp.skip (AE.tn_ ⟨(decide (s = ([114, 97, 110, 100, 111, 109] : List UInt8))), by kernel_rfl, h⟩)
                          ·refine AWp.rg tt_ok [] (by kernel_rfl) all_nil ?_
                           exact AE.tn_ ⟨(decide (s = ([110, 111, 100, 101] : List UInt8))), by kernel_rfl, h⟩
  ·clear h
   rintro st' ⟨v1, hr', h⟩
   refine AWp.drop _ _ _ hr' (by kernel_rfl) ?_
   clear hr' st'
   unfold F_z0_j2 at h
   refine AWp.cnd h (by kernel_rfl) ?_ ?_ <;> clear h <;> intro h
   ·refine AWp.seq (AWp.rg tt_ok [] (by kernel_rfl) all_nil ?_)
    refine AE.tn_ (AWp.ret ?_)
    obtain rfl := Option.some.inj h
    exact AE.br_ (AE.tr_ (post_ret (by kernel_rfl)))
   ·exact AWp.skip (AE.bn_ (AE.tn_ ⟨by kernel_rfl, h⟩))
 ·clear h
  rintro st' ⟨hr', h⟩
  refine AWp.drop _ _ _ hr' (by kernel_rfl) ?_
  clear hr' st'
  unfold F_z0_j1 at h
  refine AWp.seq (AWp.rg tt_ok [] (by kernel_rfl) all_nil ?_)
  refine AE.tn_ (AWp.ret ?_)
  obtain rfl := Option.some.inj h
  exact post_ret (by kernel_rfl)
theorem c_db0 (n : Nat) (c : Int) (r : Bool) (h : F_db0 n c = some r) : saysOf Tryz.prog 103 [.v (.int .i32 c)] [] [] (.ret (.v (.bool r)) none) [] := by
 refine sw_ tt_ok Tryz.func103 rfl rfl rfl ?_
 unfold F_db0 at h
 refine AWp.seq (AWp.rg tt_ok [] (by kernel_rfl) all_nil ?_)
 refine AE.tn_ (AWp.seq (AWp.rg tt_ok [] (by kernel_rfl) all_nil ?_))
 refine AE.tn_ (AWp.ret ?_)
 obtain rfl := Option.some.inj h
 exact post_ret (by kernel_rfl)
theorem c_bu0 (n : Nat) (s : List UInt8) (r : Bool) (h : F_bu0 n s = some r) : saysOf Tryz.prog 50 [.v (.str s)] [] [] (.ret (.v (.bool r)) none) [] := by
 refine sw_ tt_ok Tryz.func50 rfl rfl rfl ?_
 unfold F_bu0 at h
 refine AWp.seq (AWp.rg tt_ok [] (by kernel_rfl) all_nil ?_)
 refine AE.tn_ (AWp.seq ?_)
 obtain ⟨g1, h⟩ := ass_some h
 obtain ⟨r2, hr2, h⟩ := bind_some h
 have pr2 := fun c1 => c_db0 n (IntKind.i32.wrap (((s.getD 0 0).toNat : Nat) : Int)) _ (cond_t c1 hr2)
 obtain ⟨r3, hr3, h⟩ := bind_some h
 have pr3 := fun c1 => c_dn0 n s _ (cond_t c1 hr3)
 obtain ⟨r4, hr4, h⟩ := bind_some h
 have pr4 := fun c1 => c_z0 n s _ (cond_t c1 hr4)
 refine AWp.rg tt_ok [orn1 pr2, orn1 pr3, orn1 pr4] (by kernel_rfl) (all_cons pr4 (all_cons pr3 (all_cons pr2 (all_cons (orT g1) all_nil)))) ?_
 refine AE.tn_ (AWp.ret ?_)
 obtain rfl := Option.some.inj h
 exact post_ret (by kernel_rfl)
theorem c_eb0 (n : Nat) (e : Expr) (depth : Int) (r : Int) (h : F_eb0 n e depth = some r) : saysOf Tryz.prog 98 [.v (.agg [.int .i64 e.Op, .int .i64 e.N, .str e.S, encL 4 enc_Expr e.Args]), .v (.int .i64 depth)] [] [] (.ret (.v (.int .i64 r)) none) [] := by
 refine sw_ tt_ok Tryz.func98 rfl rfl rfl ?_
 unfold F_eb0 at h
 refine AWp.seq (AWp.rg tt_ok [] (by kernel_rfl) all_nil ?_)
 refine AE.tn_ (AWp.seq ?_)
 obtain ⟨r1, hr1, h⟩ := bind_some h
 have pr1 := c_dx0 n e.Op _ hr1
 refine AWp.rg tt_ok [orn pr1 []] (by kernel_rfl) (all_cons pr1 all_nil) ?_
 refine AE.tn_ (AWp.seq (AWp.block (AWp.seq (AWp.rg tt_ok [] (by kernel_rfl) all_nil ?_))))
 refine AE.tn_ (AWp.cnd h (by kernel_rfl) ?_ ?_) <;> clear h <;> intro h
 ·refine AWp.seq (AWp.rg tt_ok [] (by kernel_rfl) all_nil ?_)
  refine AE.tn_ (AWp.ret ?_)
  obtain rfl := Option.some.inj h
  exact AE.br_ (AE.tr_ (post_ret (by kernel_rfl)))
 ·refine AWp.seq ?_
  obtain ⟨r3, hr3, h⟩ := bind_some h
  have pr3 := fun c1 => c_bu0 n e.S _ (cond_t c1 hr3)
  refine AWp.rg tt_ok [orn1 pr3] (by kernel_rfl) (all_cons pr3 all_nil) ?_
  refine AE.tn_ (AWp.cnd h (by kernel_rfl) ?_ ?_) <;> clear h <;> intro h
  ·refine AWp.seq (AWp.rg tt_ok [] (by kernel_rfl) all_nil ?_)
   refine AE.tn_ (AWp.ret ?_)
   obtain rfl := Option.some.inj h
   exact AE.br_ (AE.tr_ (post_ret (by kernel_rfl)))
  ·refine AWp.seq ?_
   obtain ⟨r5, hr5, h⟩ := bind_some h
   have pr5 := fun c1 c2 => c_bo0 n e.S _ (cond_t (and_t (not_t c1) c2) hr5)
   refine AWp.rg tt_ok [orn2 pr5] (by kernel_rfl) (all_cons pr5 all_nil) ?_
   refine AE.tn_ (AWp.cnd h (by kernel_rfl) ?_ ?_) <;> clear h <;> intro h
   ·refine AWp.seq (AWp.rg tt_ok [] (by kernel_rfl) all_nil ?_)
    refine AE.tn_ (AWp.ret ?_)
    obtain rfl := Option.some.inj h
    exact AE.br_ (AE.tr_ (post_ret (by kernel_rfl)))
   ·refine AWp.seq (AWp.rg tt_ok [] (by kernel_rfl) all_nil ?_)
    refine AE.tn_ (AWp.cnd h (by kernel_rfl) ?_ ?_) <;> clear h <;> intro h
    ·refine AWp.seq (AWp.rg tt_ok [] (by kernel_rfl) all_nil ?_)
     refine AE.tn_ (AWp.ret ?_)
     obtain rfl := Option.some.inj h
     exact AE.br_ (AE.tr_ (post_ret (by kernel_rfl)))
    ·refine AWp.skip (AE.bn_ (AE.tn_ ?_))
     refine AWp.seq (AWp.rg tt_ok [] (by kernel_rfl) all_nil ?_)
     refine AE.tn_ (AWp.ret ?_)
     obtain rfl := Option.some.inj h
     exact post_ret (by kernel_rfl)
theorem cB_ast_check (n : Nat) (f_ag0 : Expr → Int → Option Int) (i_ag0 : ∀ (e : Expr) (depth : Int) (r : Int), f_ag0 e depth = some r → saysOf Tryz.prog 47 [.v (.agg [.int .i64 e.Op, .int .i64 e.N, .str e.S, encL 4 enc_Expr e.Args]), .v (.int .i64 depth)] [] [] (.ret (.v (.int .i64 r)) none) []) (e : Expr) (depth : Int) (r : Int) (h : B_ag0 n f_ag0 e depth = some r) : saysOf Tryz.prog 47 [.v (.agg [.int .i64 e.Op, .int .i64 e.N, .str e.S, encL 4 enc_Expr e.Args]), .v (.int .i64 depth)] [] [] (.ret (.v (.int .i64 r)) none) [] := by
 refine sw_ tt_ok Tryz.func47 rfl rfl rfl ?_
 unfold B_ag0 at h
 refine AWp.seq (AWp.rg tt_ok [] (by kernel_rfl) all_nil ?_)
 refine AE.tn_ (AWp.seq (AWp.seq ?_))
 obtain ⟨r1, hr1, h⟩ := bind_some h
 have pr1 := c_eb0 n e depth _ hr1
 refine AWp.rg tt_ok [orn pr1 []] (by kernel_rfl) (all_cons pr1 all_nil) ?_
 refine AE.tn_ (AWp.seq (AWp.rg tt_ok [] (by kernel_rfl) all_nil ?_))
 refine AE.tn_ (AWp.cnd h (by kernel_rfl) ?_ ?_) <;> clear h <;> intro h
 ·refine AWp.seq (AWp.rg tt_ok [] (by kernel_rfl) all_nil ?_)
  refine AE.tn_ (AWp.ret ?_)
  obtain rfl := Option.some.inj h
  exact AE.tr_ (post_ret (by kernel_rfl))
 ·refine AWp.skip (AE.tn_ (AWp.cut (fun st' => restr [] [] 0 st'.env st'.H st'.nxt = some ⟨[], [], 0⟩ ∧ F_ag0_j1 n f_ag0 = some r) ?_ ?_))
  ·refine AWp.seq (AWp.rg tt_ok [] (by kernel_rfl) all_nil ?_)
   refine AE.tn_ (AWp.block (AWp.loop (σ := Int) (fun zm zs zst => restr [1, 16, 17, 18] [] 0 zst.env zst.H zst.nxt = some ⟨[(1, ⟨.v (.int .i64 depth), none⟩), (16, ⟨.v (encL 4 enc_Expr e.Args), none⟩), (17, ⟨.v (.int .i64 ((e.Args.length : Nat) : Int)), none⟩), (18, ⟨.v (.int .i64 zs), none⟩)], [], 0⟩ ∧ F_ag0_l2 n f_ag0 depth e zm zs = some r) ?_ (n := n) (s := 0) ⟨by kernel_rfl, h⟩))
   clear h
   rintro m2 v6 st' ⟨hr', h⟩
   cases m2 with
   | zero =>
    have h2 : (none : Option _) = some r := h
    cases h2
   | succ m2 =>
    refine ⟨m2, rfl, AWp.drop _ _ _ hr' (by kernel_rfl) ?_⟩
    clear hr' st'
    replace h : F_ag0_b2 n f_ag0 depth e (F_ag0_l2 n f_ag0 depth e m2) v6 = some r := h
    unfold F_ag0_b2 at h
    refine AWp.seq (AWp.rg tt_ok [] (by kernel_rfl) all_nil ?_)
    refine AE.tn_ (AWp.seq (AWp.cnd h (by kernel_rfl) ?_ ?_)) <;> clear h <;> intro h
    ·refine AWp.skip (AE.tn_ (AWp.seq (AWp.block (AWp.seq ?_))))
     obtain ⟨g7, h⟩ := ass_some h
     refine AWp.rg tt_ok [orv (enc_vimp_Expr (e.Args.getD (v6).toNat default))] (by kernel_rfl) (all_cons (enc_vimp_Expr (e.Args.getD (v6).toNat default)) (all_cons g7 all_nil)) ?_
     refine AE.tn_ (AWp.seq ?_)
     obtain ⟨r8, hr8, h⟩ := bind_some h
     have pr8 := i_ag0 (e.Args.getD (v6).toNat default) (IntKind.i64.wrap (depth + 1)) _ hr8
     refine AWp.rg tt_ok [orn pr8 []] (by kernel_rfl) (all_cons pr8 all_nil) ?_
     refine AE.tn_ (AWp.seq (AWp.rg tt_ok [] (by kernel_rfl) all_nil ?_))
     refine AE.tn_ (AWp.cnd h (by kernel_rfl) ?_ ?_) <;> clear h <;> intro h
     ·refine AWp.seq (AWp.rg tt_ok [] (by kernel_rfl) all_nil ?_)
      refine AE.tn_ (AWp.ret ?_)
      obtain rfl := Option.some.inj h
      exact AE.br_ (AE.tr_ (AE.tr_ (AE.br_ (AE.tr_ (post_ret (by kernel_rfl))))))
     ·refine AWp.skip (AE.bn_ (AE.tn_ ?_))
      refine AWp.rg tt_ok [] (by kernel_rfl) all_nil ?_
      exact AE.tn_ ⟨(IntKind.i64.wrap (v6 + 1)), by kernel_rfl, h⟩
    ·refine AWp.exit ?_
     exact AE.tx_ (AE.tx_ (AE.block_hit (AE.tn_ ⟨by kernel_rfl, h⟩)))
  ·clear h
   rintro st' ⟨hr', h⟩
   refine AWp.drop _ _ _ hr' (by kernel_rfl) ?_
   clear hr' st'
   unfold F_ag0_j1 at h
   refine AWp.seq (AWp.rg tt_ok [] (by kernel_rfl) all_nil ?_)
   refine AE.tn_ (AWp.ret ?_)
   obtain rfl := Option.some.inj h
   exact post_ret (by kernel_rfl)
theorem c_ag0 (n : Nat) : ∀ (e : Expr) (depth : Int) (r : Int), F_ag0 n e depth = some r → saysOf Tryz.prog 47 [.v (.agg [.int .i64 e.Op, .int .i64 e.N, .str e.S, encL 4 enc_Expr e.Args]), .v (.int .i64 depth)] [] [] (.ret (.v (.int .i64 r)) none) [] := by
 induction n with
 | zero => intro e depth r h; have h2 : (none : Option _) = some r := h; cases h2
 | succ m ih => intro e depth r h; exact cB_ast_check m (F_ag0 m) ih e depth r h
theorem c_ci0 (n : Nat) (e : Expr) (r : Int) (h : F_ci0 n e = some r) : saysOf Tryz.prog 22 [.v (.agg [.int .i64 e.Op, .int .i64 e.N, .str e.S, encL 4 enc_Expr e.Args])] [] [] (.ret (.v (.int .i64 r)) none) [] := by
 refine sw_ tt_ok Tryz.func22 rfl rfl rfl ?_
 unfold F_ci0 at h
 refine AWp.seq (AWp.rg tt_ok [] (by kernel_rfl) all_nil ?_)
 refine AE.tn_ (AWp.seq ?_)
 obtain ⟨r1, hr1, h⟩ := bind_some h
 have pr1 := c_ag0 n e 1 _ hr1
 refine AWp.rg tt_ok [orn pr1 []] (by kernel_rfl) (all_cons pr1 all_nil) ?_
 refine AE.tn_ (AWp.ret ?_)
 obtain rfl := Option.some.inj h
 exact post_ret (by kernel_rfl)
theorem c_ae0 (n : Nat) (s : List UInt8) (r : (List UInt8) × Int × Int) (h : F_ae0 n s = some r) : saysOf Tryz.prog 115 [.v (.str s)] [] [] (.ret (.tup [.v (.str r.1), .v (.int .i64 r.2.1), .v (.int .i64 r.2.2)]) none) [] := by
 refine sw_ tt_ok Tryz.func115 rfl rfl rfl ?_
 unfold F_ae0 at h
 refine AWp.seq (AWp.rg tt_ok [] (by kernel_rfl) all_nil ?_)
 refine AE.tn_ (AWp.seq (AWp.rg tt_ok [] (by kernel_rfl) all_nil ?_))
 refine AE.tn_ (AWp.cut (fun st' => restr [] [] 0 st'.env st'.H st'.nxt = some ⟨[], [], 0⟩ ∧ F_ae0_j1 n = some r) ?_ ?_)
 ·refine AWp.seq (AWp.rg tt_ok [] (by kernel_rfl) all_nil ?_)
  refine AE.tn_ (AWp.block (AWp.loop (σ := (List Int) × Int) (fun zm zs zst => restr [0, 5, 6] [] 0 zst.env zst.H zst.nxt = some ⟨[(0, ⟨.v (.str s), none⟩), (5, ⟨.v (encL 1 e_u8 zs.1), (some 5)⟩), (6, ⟨.v (.int .i64 zs.2), none⟩)], [], 0⟩ ∧ F_ae0_l2 n s zm zs.1 zs.2 = some r) ?_ (n := n) (s := (([] : List Int), 1)) ⟨by kernel_rfl, h⟩))
  clear h
  rintro m2 ⟨v11, v12⟩ st' ⟨hr', h⟩
  cases m2 with
  | zero =>
   have h2 : (none : Option _) = some r := h
   cases h2
  | succ m2 =>
   refine ⟨m2, rfl, AWp.drop _ _ _ hr' (by kernel_rfl) ?_⟩
   clear hr' st'
   replace h : F_ae0_b2 n s (F_ae0_l2 n s m2) v11 v12 = some r := h
   unfold F_ae0_b2 at h
   refine AWp.seq (AWp.seq (AWp.rg tt_ok [] (by kernel_rfl) all_nil ?_))
   refine AE.tn_ (AWp.cnd h (by kernel_rfl) ?_ ?_) <;> clear h <;> intro h
   ·refine AWp.skip (AE.tn_ (AWp.cut (fun st' => ∃ (v19 : List Int) (v20 : Int), restr [0, 5, 6] [] 0 st'.env st'.H st'.nxt = some ⟨[(0, ⟨.v (.str s), none⟩), (5, ⟨.v (encL 1 e_u8 v19), (some 5)⟩), (6, ⟨.v (.int .i64 v20), none⟩)], [], 0⟩ ∧ F_ae0_j3 n (F_ae0_l2 n s m2) s v19 v20 = some r) ?_ ?_))
    ·refine AWp.block (AWp.seq ?_)
     obtain ⟨g13, h⟩ := ass_some h
     refine AWp.rg tt_ok [] (by kernel_rfl) (all_cons g13 all_nil) ?_
     refine AE.tn_ (AWp.seq (AWp.seq (AWp.rg tt_ok [] (by kernel_rfl) all_nil ?_)))
     refine AE.tn_ (AWp.cnd h (by kernel_rfl) ?_ ?_) <;> clear h <;> intro h
     ·refine AWp.seq ?_
      obtain ⟨g14, h⟩ := ass_some h
      refine AWp.rg tt_ok [.val (.str (toB v11))] (by kernel_rfl) (all_cons (toB_ok g14) all_nil) ?_
      refine AE.tn_ (AWp.ret ?_)
      obtain rfl := Option.some.inj h
      exact AE.tr_ (AE.br_ (AE.tr_ (AE.tr_ (AE.br_ (AE.tr_ (post_ret (by kernel_rfl)))))))
     ·refine AWp.skip (AE.tn_ (AWp.cut (fun st' => ∃ (v16 : Int) (v17 : Int), restr [0, 5, 6, 7] [] 0 st'.env st'.H st'.nxt = some ⟨[(0, ⟨.v (.str s), none⟩), (5, ⟨.v (encL 1 e_u8 v11), (some 5)⟩), (6, ⟨.v (.int .i64 v16), none⟩), (7, ⟨.v (.int .u8 v17), none⟩)], [], 0⟩ ∧ F_ae0_j4 n (F_ae0_l2 n s m2) s v11 v16 v17 = some r) ?_ ?_))
      ·refine AWp.seq (AWp.rg tt_ok [] (by kernel_rfl) all_nil ?_)
       refine AE.tn_ (AWp.cnd h (by kernel_rfl) ?_ ?_) <;> clear h <;> intro h
       ·refine AWp.seq (AWp.rg tt_ok [] (by kernel_rfl) all_nil ?_)
        refine AE.tn_ (AWp.seq (AWp.seq (AWp.rg tt_ok [] (by kernel_rfl) all_nil ?_)))
        refine AE.tn_ (AWp.cnd h (by kernel_rfl) ?_ ?_) <;> clear h <;> intro h
        ·refine AWp.exit ?_
         exact AE.tx_ (AE.tx_ (AE.block_miss (by kernel_rfl) (AE.tx_ (AE.tx_ (AE.block_hit (AE.tn_ ⟨by kernel_rfl, h⟩))))))
        ·refine AWp.skip (AE.tn_ (AWp.seq ?_))
         obtain ⟨g15, h⟩ := ass_some h
         refine AWp.rg tt_ok [] (by kernel_rfl) (all_cons g15 all_nil) ?_
         refine AE.tn_ (AWp.seq (AWp.rg tt_ok [] (by kernel_rfl) all_nil ?_))
         refine AE.tn_ (AWp.cnd h (by kernel_rfl) ?_ ?_) <;> clear h <;> intro h
         ·refine AWp.seq (AWp.rg tt_ok [] (by kernel_rfl) all_nil ?_)
          refine AE.tn_ (AWp.ret ?_)
          obtain rfl := Option.some.inj h
          exact AE.tr_ (AE.br_ (AE.tr_ (AE.tr_ (AE.br_ (AE.tr_ (post_ret (by kernel_rfl)))))))
         ·exact AWp.skip (AE.tn_ ⟨(IntKind.i64.wrap (v12 + 1)), (((s.getD ((IntKind.i64.wrap (v12 + 1))).toNat 0).toNat : Nat) : Int), by kernel_rfl, h⟩)
       ·exact AWp.skip (AE.tn_ ⟨v12, (((s.getD (v12).toNat 0).toNat : Nat) : Int), by kernel_rfl, h⟩)
      ·clear h
       rintro st' ⟨v16, v17, hr', h⟩
       refine AWp.drop _ _ _ hr' (by kernel_rfl) ?_
       clear hr' st'
       unfold F_ae0_j4 at h
       refine AWp.seq (AWp.seq (AWp.rg tt_ok [] (by kernel_rfl) all_nil ?_))
       refine AE.tn_ (AWp.cnd h (by kernel_rfl) ?_ ?_) <;> clear h <;> intro h
       ·refine AWp.seq (AWp.rg tt_ok [] (by kernel_rfl) all_nil ?_)
        refine AE.tn_ (AWp.ret ?_)
        obtain rfl := Option.some.inj h
        exact AE.tr_ (AE.br_ (AE.tr_ (AE.tr_ (AE.br_ (AE.tr_ (post_ret (by kernel_rfl)))))))
       ·refine AWp.skip (AE.tn_ (AWp.seq (AWp.seq (AWp.rg tt_ok [] (by kernel_rfl) all_nil ?_))))
        refine AE.tn_ (AWp.cnd h (by kernel_rfl) ?_ ?_) <;> clear h <;> intro h
        ·refine AWp.seq (AWp.rg tt_ok [] (by kernel_rfl) all_nil ?_)
         refine AE.tn_ (AWp.ret ?_)
         obtain rfl := Option.some.inj h
         exact AE.tr_ (AE.br_ (AE.tr_ (AE.tr_ (AE.br_ (AE.tr_ (post_ret (by kernel_rfl)))))))
        ·refine AWp.skip (AE.tn_ ?_)
         obtain ⟨g18, h⟩ := ass_some h
         refine AWp.rg tt_ok [.val (encL 1 e_u8 ([v17] : List Int)), .val (encL 1 e_u8 (v11 ++ ([v17] : List Int)))] (by kernel_rfl) (all_cons (vimp_app (k := 1) (e := e_u8) v11 ([v17] : List Int)) (all_cons g18 (all_cons (vimp_litm (k := 1) (e := e_u8) ([v17] : List Int)) all_nil))) ?_
         exact AE.bn_ (AE.tn_ ⟨(v11 ++ ([v17] : List Int)), v16, by kernel_rfl, h⟩)
    ·clear h
     rintro st' ⟨v19, v20, hr', h⟩
     refine AWp.drop _ _ _ hr' (by kernel_rfl) ?_
     clear hr' st'
     unfold F_ae0_j3 at h
     refine AWp.rg tt_ok [] (by kernel_rfl) all_nil ?_
     exact AE.tn_ ⟨(v19, (IntKind.i64.wrap (v20 + 1))), by kernel_rfl, h⟩
   ·refine AWp.exit ?_
    exact AE.tx_ (AE.tx_ (AE.block_hit (AE.tn_ ⟨by kernel_rfl, h⟩)))
 ·clear h
  rintro st' ⟨hr', h⟩
  refine AWp.drop _ _ _ hr' (by kernel_rfl) ?_
  clear hr' st'
  unfold F_ae0_j1 at h
  refine AWp.seq (AWp.rg tt_ok [] (by kernel_rfl) all_nil ?_)
  refine AE.tn_ (AWp.ret ?_)
  obtain rfl := Option.some.inj h
  exact post_ret (by kernel_rfl)
theorem c_de0 (n : Nat) (s : List UInt8) (c : Int) (r : Int) (h : F_de0 n s c = some r) : saysOf Tryz.prog 157 [.v (.str s), .v (.int .u8 c)] [] [] (.ret (.v (.int .i64 r)) none) [] := by
 refine sw_ tt_ok Tryz.func157 rfl rfl rfl ?_
 unfold F_de0 at h
 refine AWp.seq (AWp.rg tt_ok [] (by kernel_rfl) all_nil ?_)
 refine AE.tn_ (AWp.seq ?_)
 obtain ⟨r1, hr1, h⟩ := bind_some h
 have pr1 := c_bq0 n s c _ hr1
 refine AWp.rg tt_ok [orn pr1 []] (by kernel_rfl) (all_cons pr1 all_nil) ?_
 refine AE.tn_ (AWp.ret ?_)
 obtain rfl := Option.some.inj h
 exact post_ret (by kernel_rfl)
theorem c_bi0 (n : Nat) (s : List UInt8) (r : (List UInt8)) (h : F_bi0 n s = some r) : saysOf Tryz.prog 116 [.v (.str s)] [] [] (.ret (.v (.str r)) none) [] := by
 refine sw_ tt_ok Tryz.func116 rfl rfl rfl ?_
 unfold F_bi0 at h
 refine AWp.seq (AWp.rg tt_ok [] (by kernel_rfl) all_nil ?_)
 refine AE.tn_ (AWp.cut (fun st' => restr [0] [] 0 st'.env st'.H st'.nxt = some ⟨[(0, ⟨.v (.str s), none⟩)], [], 0⟩ ∧ F_bi0_j1 n s = some r) ?_ ?_)
 ·refine AWp.seq (AWp.rg tt_ok [] (by kernel_rfl) all_nil ?_)
  refine AE.tn_ (AWp.cnd h (by kernel_rfl) ?_ ?_) <;> clear h <;> intro h
  ·refine AWp.seq ?_
   obtain ⟨g1, h⟩ := ass_some h
   refine AWp.rg tt_ok [] (by kernel_rfl) (all_cons g1 all_nil) ?_
   refine AE.tn_ (AWp.block (AWp.cut (fun st' => ∃ (v2 : Bool), restr [0, 8] [] 0 st'.env st'.H st'.nxt = some ⟨[(0, ⟨.v (.str s), none⟩), (8, ⟨.v (.bool v2), none⟩)], [], 0⟩ ∧ F_bi0_j2 n s v2 = some r) ?_ ?_))
   ·refine AWp.seq (AWp.rg tt_ok [] (by kernel_rfl) all_nil ?_)
    refine AE.tn_ (AWp.cnd h (by kernel_rfl) ?_ ?_) <;> clear h <;> intro h
    ·exact AWp.skip (AE.tn_ ⟨(decide ((s.take 2) = ([61, 61] : List UInt8))), by kernel_rfl, h⟩)
    ·refine AWp.seq (AWp.rg tt_ok [] (by kernel_rfl) all_nil ?_)
     refine AE.tn_ (AWp.cnd h (by kernel_rfl) ?_ ?_) <;> clear h <;> intro h
     ·exact AWp.skip (AE.tn_ ⟨(decide ((s.take 2) = ([33, 61] : List UInt8))), by kernel_rfl, h⟩)
     ·refine AWp.seq (AWp.rg tt_ok [] (by kernel_rfl) all_nil ?_)
      refine AE.tn_ (AWp.cnd h (by kernel_rfl) ?_ ?_) <;> clear h <;> intro h
      ·exact AWp.skip (AE.tn_ ⟨(decide ((s.take 2) = ([60, 61] : List UInt8))), by kernel_rfl, h⟩)
      ·refine AWp.seq (AWp.rg tt_ok [] (by kernel_rfl) all_nil ?_)
       refine AE.tn_ (AWp.cnd h (by kernel_rfl) ?_ ?_) <;> clear h <;> intro h
       ·exact AWp.skip (AE.tn_ ⟨(decide ((s.take 2) = ([62, 61] : List UInt8))), by kernel_rfl, h⟩)
       ·refine AWp.rg tt_ok [] (by kernel_rfl) all_nil ?_
        exact AE.tn_ ⟨(decide ((s.take 2) = ([43, 43] : List UInt8))), by kernel_rfl, h⟩
   ·clear h
    rintro st' ⟨v2, hr', h⟩
    refine AWp.drop _ _ _ hr' (by kernel_rfl) ?_
    clear hr' st'
    unfold F_bi0_j2 at h
    refine AWp.cnd h (by kernel_rfl) ?_ ?_ <;> clear h <;> intro h
    ·refine AWp.seq ?_
     obtain ⟨g3, h⟩ := ass_some h
     refine AWp.rg tt_ok [] (by kernel_rfl) (all_cons g3 all_nil) ?_
     refine AE.tn_ (AWp.ret ?_)
     obtain rfl := Option.some.inj h
     exact AE.br_ (AE.tr_ (post_ret (by kernel_rfl)))
    ·exact AWp.skip (AE.bn_ (AE.tn_ ⟨by kernel_rfl, h⟩))
  ·exact AWp.skip (AE.tn_ ⟨by kernel_rfl, h⟩)
 ·clear h
  rintro st' ⟨hr', h⟩
  refine AWp.drop _ _ _ hr' (by kernel_rfl) ?_
  clear hr' st'
  unfold F_bi0_j1 at h
  refine AWp.seq (AWp.seq ?_)
  obtain ⟨g4, h⟩ := ass_some h
  obtain ⟨r5, hr5, h⟩ := bind_some h
  have pr5 := fun c1 => c_de0 n ([40, 41, 123, 125, 44, 59, 58, 61, 60, 62, 43, 45, 42, 47, 37] : List UInt8) (((s.getD 0 0).toNat : Nat) : Int) _ (cond_t c1 hr5)
  refine AWp.rg tt_ok [orn1 pr5] (by kernel_rfl) (all_cons pr5 (all_cons (orT g4) all_nil)) ?_
  refine AE.tn_ (AWp.cnd h (by kernel_rfl) ?_ ?_) <;> clear h <;> intro h
  ·refine AWp.seq ?_
   obtain ⟨g7, h⟩ := ass_some h
   refine AWp.rg tt_ok [] (by kernel_rfl) (all_cons g7 all_nil) ?_
   refine AE.tn_ (AWp.ret ?_)
   obtain rfl := Option.some.inj h
   exact AE.tr_ (post_ret (by kernel_rfl))
  ·refine AWp.skip (AE.tn_ (AWp.seq (AWp.rg tt_ok [] (by kernel_rfl) all_nil ?_)))
   refine AE.tn_ (AWp.ret ?_)
   obtain rfl := Option.some.inj h
   exact post_ret (by kernel_rfl)
theorem c_at0 (n : Nat) (s : List UInt8) (r : Int × Int) (h : F_at0 n s = some r) : saysOf Tryz.prog 156 [.v (.str s)] [] [] (.ret (.tup [.v (.int .i64 r.1), .v (.int .i64 r.2)]) none) [] := by
 refine sw_ tt_ok Tryz.func156 rfl rfl rfl ?_
 unfold F_at0 at h
 refine AWp.seq (AWp.rg tt_ok [] (by kernel_rfl) all_nil ?_)
 refine AE.tn_ (AWp.scope ?_)
 refine AWp.seq (AWp.rg tt_ok [] (by kernel_rfl) all_nil ?_)
 refine AE.tn_ (AWp.cut (fun st' => ∃ (v3 : List UInt8) (v4 : Bool), restr [0, 4, 5] [] 0 st'.env st'.H st'.nxt = some ⟨[(0, ⟨.v (.str s), none⟩), (4, ⟨.v (.str v3), none⟩), (5, ⟨.v (.bool v4), none⟩)], [], 0⟩ ∧ F_at0_j1 n s v3 v4 = some r) ?_ ?_)
 ·refine AWp.seq ?_
  obtain ⟨g1, h⟩ := ass_some h
  refine AWp.rg tt_ok [] (by kernel_rfl) (all_cons (orT g1) all_nil) ?_
  refine AE.tn_ (AWp.cnd h (by kernel_rfl) ?_ ?_) <;> clear h <;> intro h
  ·obtain ⟨g2, h⟩ := ass_some h
   refine AWp.rg tt_ok [] (by kernel_rfl) (all_cons g2 all_nil) ?_
   exact AE.tn_ ⟨(s.drop 1), true, by kernel_rfl, h⟩
  ·exact AWp.skip (AE.tn_ ⟨s, false, by kernel_rfl, h⟩)
 ·clear h
  rintro st' ⟨v3, v4, hr', h⟩
  refine AWp.drop _ _ _ hr' (by kernel_rfl) ?_
  clear hr' st'
  unfold F_at0_j1 at h
  refine AWp.seq (AWp.rg tt_ok [] (by kernel_rfl) all_nil ?_)
  refine AE.tn_ (AWp.seq (AWp.label ?_))
  refine AE.tn_ (AWp.cut (fun st' => ∃ (v10 : Int), restr [0, 4, 5, 6] [] 0 st'.env st'.H st'.nxt = some ⟨[(0, ⟨.v (.str s), none⟩), (4, ⟨.v (.str v3), none⟩), (5, ⟨.v (.bool v4), none⟩), (6, ⟨.v (.int .i64 v10), none⟩)], [], 0⟩ ∧ F_at0_j2 n s v3 v4 v10 = some r) ?_ ?_)
  ·refine AWp.block (AWp.loop (σ := Int) (fun zm zs zst => restr [0, 4, 5, 6] [] 0 zst.env zst.H zst.nxt = some ⟨[(0, ⟨.v (.str s), none⟩), (4, ⟨.v (.str v3), none⟩), (5, ⟨.v (.bool v4), none⟩), (6, ⟨.v (.int .i64 zs), none⟩)], [], 0⟩ ∧ F_at0_l3 n s v3 v4 zm zs = some r) ?_ (n := n) (s := 0) ⟨by kernel_rfl, h⟩)
   clear h
   rintro m3 v7 st' ⟨hr', h⟩
   cases m3 with
   | zero =>
    have h2 : (none : Option _) = some r := h
    cases h2
   | succ m3 =>
    refine ⟨m3, rfl, AWp.drop _ _ _ hr' (by kernel_rfl) ?_⟩
    clear hr' st'
    replace h : F_at0_b3 n s v3 v4 (F_at0_l3 n s v3 v4 m3) v7 = some r := h
    unfold F_at0_b3 at h
    refine AWp.seq (AWp.seq (AWp.rg tt_ok [] (by kernel_rfl) all_nil ?_))
    refine AE.tn_ (AWp.cnd h (by kernel_rfl) ?_ ?_) <;> clear h <;> intro h
    ·refine AWp.skip (AE.tn_ (AWp.block (AWp.seq ?_)))
     obtain ⟨g8, h⟩ := ass_some h
     refine AWp.rg tt_ok [] (by kernel_rfl) (all_cons g8 all_nil) ?_
     refine AE.tn_ (AWp.block (AWp.seq (AWp.rg tt_ok [] (by kernel_rfl) all_nil ?_)))
     refine AE.tn_ (AWp.cnd h (by kernel_rfl) ?_ ?_) <;> clear h <;> intro h
     ·refine AWp.rg tt_ok [] (by kernel_rfl) all_nil ?_
      exact AE.bn_ (AE.bn_ (AE.tn_ ⟨(IntKind.i64.wrap (v7 + 1)), by kernel_rfl, h⟩))
     ·refine AWp.exit ?_
      exact AE.block_miss (by kernel_rfl) (AE.block_miss (by kernel_rfl) (AE.tx_ (AE.block_hit (AE.tn_ ⟨v7, by kernel_rfl, h⟩))))
    ·refine AWp.exit ?_
     exact AE.tx_ (AE.tx_ (AE.block_hit (AE.tn_ ⟨v7, by kernel_rfl, h⟩)))
  ·clear h
   rintro st' ⟨v10, hr', h⟩
   refine AWp.drop _ _ _ hr' (by kernel_rfl) ?_
   clear hr' st'
   unfold F_at0_j2 at h
   refine AWp.seq (AWp.seq ?_)
   obtain ⟨g11, h⟩ := ass_some h
   refine AWp.rg tt_ok [] (by kernel_rfl) (all_cons (orF g11) all_nil) ?_
   refine AE.tn_ (AWp.cnd h (by kernel_rfl) ?_ ?_) <;> clear h <;> intro h
   ·refine AWp.seq (AWp.rg tt_ok [] (by kernel_rfl) all_nil ?_)
    refine AE.tn_ (AWp.ret ?_)
    obtain rfl := Option.some.inj h
    exact AE.tr_ (post_ret (by kernel_rfl))
   ·refine AWp.skip (AE.tn_ (AWp.seq ?_))
    obtain ⟨r13, hr13, h⟩ := bind_some h
    cases r13 with
    | inl y14_0 =>
     replace h := sm_l h
     have pr13 := c_cf0 n s 10 64 _ hr13
     refine AWp.rg tt_ok [orn pr13 []] (by kernel_rfl) (all_cons pr13 all_nil) ?_
     refine AE.tn_ (AWp.seq (AWp.seq (AWp.rg tt_ok [] (by kernel_rfl) all_nil ?_)))
     refine AE.tn_ (AWp.cnd h (by kernel_rfl) ?_ ?_) <;> clear h <;> intro h
     ·refine AWp.seq (AWp.rg tt_ok [] (by kernel_rfl) all_nil ?_)
      refine AE.tn_ (AWp.ret ?_)
      obtain rfl := Option.some.inj h
      exact AE.tr_ (post_ret (by kernel_rfl))
     ·refine AWp.skip (AE.tn_ (AWp.seq (AWp.rg tt_ok [] (by kernel_rfl) all_nil ?_)))
      refine AE.tn_ (AWp.ret ?_)
      obtain rfl := Option.some.inj h
      exact post_ret (by kernel_rfl)
    | inr y14_1 =>
     replace h := sm_r h
     have pr13 := c_cf0 n s 10 64 _ hr13
     refine AWp.rg tt_ok [orn pr13 []] (by kernel_rfl) (all_cons pr13 all_nil) ?_
     refine AE.tn_ (AWp.seq (AWp.seq (AWp.rg tt_ok [] (by kernel_rfl) all_nil ?_)))
     refine AE.tn_ (AWp.cnd h (by kernel_rfl) ?_ ?_) <;> clear h <;> intro h
     ·refine AWp.seq (AWp.rg tt_ok [] (by kernel_rfl) all_nil ?_)
      refine AE.tn_ (AWp.ret ?_)
      obtain rfl := Option.some.inj h
      exact AE.tr_ (post_ret (by kernel_rfl))
     ·refine AWp.skip (AE.tn_ (AWp.seq (AWp.rg tt_ok [] (by kernel_rfl) all_nil ?_)))
      refine AE.tn_ (AWp.ret ?_)
      obtain rfl := Option.some.inj h
      exact post_ret (by kernel_rfl)
theorem c_do0 (n : Nat) (w : List UInt8) (r : Token × Int) (h : F_do0 n w = some r) : saysOf Tryz.prog 114 [.v (.str w)] [] [] (.ret (.tup [.v (.agg [.int .i64 r.1.Kind, .str r.1.Text, .int .i64 r.1.N, .int .i64 r.1.Line]), .v (.int .i64 r.2)]) none) [] := by
 refine sw_ tt_ok Tryz.func114 rfl rfl rfl ?_
 unfold F_do0 at h
 refine AWp.seq (AWp.rg tt_ok [] (by kernel_rfl) all_nil ?_)
 refine AE.tn_ (AWp.seq (AWp.seq ?_))
 obtain ⟨g1, h⟩ := ass_some h
 refine AWp.rg tt_ok [] (by kernel_rfl) (all_cons g1 all_nil) ?_
 refine AE.tn_ (AWp.cnd h (by kernel_rfl) ?_ ?_) <;> clear h <;> intro h
 ·refine AWp.seq (AWp.rg tt_ok [] (by kernel_rfl) all_nil ?_)
  refine AE.tn_ (AWp.ret ?_)
  obtain rfl := Option.some.inj h
  exact AE.tr_ (post_ret (by kernel_rfl))
 ·refine AWp.skip (AE.tn_ (AWp.seq (AWp.seq ?_)))
  obtain ⟨g3, h⟩ := ass_some h
  obtain ⟨r4, hr4, h⟩ := bind_some h
  have pr4 := c_db0 n (IntKind.i32.wrap (((w.getD 0 0).toNat : Nat) : Int)) _ hr4
  refine AWp.rg tt_ok [orn pr4 []] (by kernel_rfl) (all_cons pr4 (all_cons g3 all_nil)) ?_
  refine AE.tn_ (AWp.cnd h (by kernel_rfl) ?_ ?_) <;> clear h <;> intro h
  ·refine AWp.seq (AWp.seq ?_)
   obtain ⟨r6, hr6, h⟩ := bind_some h
   have pr6 := c_z0 n w _ hr6
   refine AWp.rg tt_ok [orn pr6 []] (by kernel_rfl) (all_cons pr6 all_nil) ?_
   refine AE.tn_ (AWp.cnd h (by kernel_rfl) ?_ ?_) <;> clear h <;> intro h
   ·refine AWp.seq (AWp.rg tt_ok [] (by kernel_rfl) all_nil ?_)
    refine AE.tn_ (AWp.ret ?_)
    obtain rfl := Option.some.inj h
    exact AE.tr_ (AE.tr_ (post_ret (by kernel_rfl)))
   ·refine AWp.skip (AE.tn_ (AWp.seq (AWp.seq ?_)))
    obtain ⟨r8, hr8, h⟩ := bind_some h
    have pr8 := c_bu0 n w _ hr8
    refine AWp.rg tt_ok [orn pr8 []] (by kernel_rfl) (all_cons pr8 all_nil) ?_
    refine AE.tn_ (AWp.cnd h (by kernel_rfl) ?_ ?_) <;> clear h <;> intro h
    ·refine AWp.seq (AWp.rg tt_ok [] (by kernel_rfl) all_nil ?_)
     refine AE.tn_ (AWp.ret ?_)
     obtain rfl := Option.some.inj h
     exact AE.tr_ (AE.tr_ (post_ret (by kernel_rfl)))
    ·refine AWp.skip (AE.tn_ (AWp.seq (AWp.rg tt_ok [] (by kernel_rfl) all_nil ?_)))
     refine AE.tn_ (AWp.ret ?_)
     obtain rfl := Option.some.inj h
     exact AE.tr_ (post_ret (by kernel_rfl))
  ·refine AWp.skip (AE.tn_ (AWp.seq ?_))
   obtain ⟨r10, hr10, h⟩ := bind_some h
   have pr10 := c_at0 n w _ hr10
   refine AWp.rg tt_ok [orn pr10 []] (by kernel_rfl) (all_cons pr10 all_nil) ?_
   refine AE.tn_ (AWp.seq (AWp.seq (AWp.rg tt_ok [] (by kernel_rfl) all_nil ?_)))
   refine AE.tn_ (AWp.cnd h (by kernel_rfl) ?_ ?_) <;> clear h <;> intro h
   ·refine AWp.seq (AWp.rg tt_ok [] (by kernel_rfl) all_nil ?_)
    refine AE.tn_ (AWp.ret ?_)
    obtain rfl := Option.some.inj h
    exact AE.tr_ (post_ret (by kernel_rfl))
   ·refine AWp.skip (AE.tn_ (AWp.seq (AWp.rg tt_ok [] (by kernel_rfl) all_nil ?_)))
    refine AE.tn_ (AWp.ret ?_)
    obtain rfl := Option.some.inj h
    exact post_ret (by kernel_rfl)
theorem c_dg0 (n : Nat) (s : List UInt8) (r : Token × Int × Int) (h : F_dg0 n s = some r) : saysOf Tryz.prog 64 [.v (.str s)] [] [] (.ret (.tup [.v (.agg [.int .i64 r.1.Kind, .str r.1.Text, .int .i64 r.1.N, .int .i64 r.1.Line]), .v (.int .i64 r.2.1), .v (.int .i64 r.2.2)]) none) [] := by
 refine sw_ tt_ok Tryz.func64 rfl rfl rfl ?_
 unfold F_dg0 at h
 refine AWp.seq (AWp.rg tt_ok [] (by kernel_rfl) all_nil ?_)
 refine AE.tn_ (AWp.seq (AWp.seq ?_))
 obtain ⟨r1, hr1, h⟩ := bind_some h
 have pr1 := c_dn0 n s _ hr1
 refine AWp.rg tt_ok [orn pr1 []] (by kernel_rfl) (all_cons pr1 all_nil) ?_
 refine AE.tn_ (AWp.seq (AWp.rg tt_ok [] (by kernel_rfl) all_nil ?_))
 refine AE.tn_ (AWp.cnd h (by kernel_rfl) ?_ ?_) <;> clear h <;> intro h
 ·refine AWp.seq ?_
  obtain ⟨g3, h⟩ := ass_some h
  obtain ⟨r4, hr4, h⟩ := bind_some h
  have pr4 := c_do0 n (s.take (r1).toNat) _ hr4
  refine AWp.rg tt_ok [orn pr4 []] (by kernel_rfl) (all_cons pr4 (all_cons g3 all_nil)) ?_
  refine AE.tn_ (AWp.seq (AWp.rg tt_ok [] (by kernel_rfl) all_nil ?_))
  refine AE.tn_ (AWp.ret ?_)
  obtain rfl := Option.some.inj h
  exact AE.tr_ (post_ret (by kernel_rfl))
 ·refine AWp.skip (AE.tn_ (AWp.seq (AWp.seq ?_)))
  obtain ⟨g5, h⟩ := ass_some h
  refine AWp.rg tt_ok [] (by kernel_rfl) (all_cons g5 all_nil) ?_
  refine AE.tn_ (AWp.cnd h (by kernel_rfl) ?_ ?_) <;> clear h <;> intro h
  ·refine AWp.seq ?_
   obtain ⟨r7, hr7, h⟩ := bind_some h
   have pr7 := c_ae0 n s _ hr7
   refine AWp.rg tt_ok [orn pr7 []] (by kernel_rfl) (all_cons pr7 all_nil) ?_
   refine AE.tn_ (AWp.seq (AWp.rg tt_ok [] (by kernel_rfl) all_nil ?_))
   refine AE.tn_ (AWp.ret ?_)
   obtain rfl := Option.some.inj h
   exact AE.tr_ (post_ret (by kernel_rfl))
  ·refine AWp.skip (AE.tn_ (AWp.seq ?_))
   obtain ⟨r8, hr8, h⟩ := bind_some h
   have pr8 := c_bi0 n s _ hr8
   refine AWp.rg tt_ok [orn pr8 []] (by kernel_rfl) (all_cons pr8 all_nil) ?_
   refine AE.tn_ (AWp.seq (AWp.seq (AWp.rg tt_ok [] (by kernel_rfl) all_nil ?_)))
   refine AE.tn_ (AWp.cnd h (by kernel_rfl) ?_ ?_) <;> clear h <;> intro h
   ·refine AWp.seq (AWp.rg tt_ok [] (by kernel_rfl) all_nil ?_)
    refine AE.tn_ (AWp.ret ?_)
    obtain rfl := Option.some.inj h
    exact AE.tr_ (post_ret (by kernel_rfl))
   ·refine AWp.skip (AE.tn_ (AWp.seq (AWp.rg tt_ok [] (by kernel_rfl) all_nil ?_)))
    refine AE.tn_ (AWp.ret ?_)
    obtain rfl := Option.some.inj h
    exact post_ret (by kernel_rfl)
theorem c_dm0 (n : Nat) (s : List UInt8) (r : (List UInt8)) (h : F_dm0 n s = some r) : saysOf Tryz.prog 65 [.v (.str s)] [] [] (.ret (.v (.str r)) none) [] := by
 refine sw_ tt_ok Tryz.func65 rfl rfl rfl ?_
 unfold F_dm0 at h
 refine AWp.seq (AWp.rg tt_ok [] (by kernel_rfl) all_nil ?_)
 refine AE.tn_ (AWp.seq ?_)
 obtain ⟨r1, hr1, h⟩ := bind_some h
 have pr1 := c_bv0 n s _ hr1
 refine AWp.rg tt_ok [orn pr1 []] (by kernel_rfl) (all_cons pr1 all_nil) ?_
 refine AE.tn_ (AWp.ret ?_)
 obtain rfl := Option.some.inj h
 exact post_ret (by kernel_rfl)
theorem c_k0 (n : Nat) (src : List UInt8) (r : (List Token) × Int × Int) (h : F_k0 n src = some r) : saysOf Tryz.prog 29 [.v (.str src)] [] [] (.ret (.tup [.v (encL 4 enc_Token r.1), .v (.int .i64 r.2.1), .v (.int .i64 r.2.2)]) none) [] := by
 refine sw_ tt_ok Tryz.func29 rfl rfl rfl ?_
 unfold F_k0 at h
 refine AWp.seq (AWp.rg tt_ok [] (by kernel_rfl) all_nil ?_)
 refine AE.tn_ (AWp.seq (AWp.seq (AWp.rg tt_ok [] (by kernel_rfl) all_nil ?_)))
 refine AE.tn_ (AWp.cnd h (by kernel_rfl) ?_ ?_) <;> clear h <;> intro h
 ·refine AWp.seq (AWp.rg tt_ok [] (by kernel_rfl) all_nil ?_)
  refine AE.tn_ (AWp.ret ?_)
  obtain rfl := Option.some.inj h
  exact AE.tr_ (post_ret (by kernel_rfl))
 ·refine AWp.skip (AE.tn_ (AWp.seq (AWp.rg tt_ok [] (by kernel_rfl) all_nil ?_)))
  refine AE.tn_ (AWp.seq (AWp.rg tt_ok [] (by kernel_rfl) all_nil ?_))
  refine AE.tn_ (AWp.cut (fun st' => ∃ (v35 : List Token), restr [5] [] 0 st'.env st'.H st'.nxt = some ⟨[(5, ⟨.v (encL 4 enc_Token v35), (some 100)⟩)], [], 0⟩ ∧ F_k0_j1 n v35 = some r) ?_ ?_)
  ·refine AWp.seq (AWp.rg tt_ok [] (by kernel_rfl) all_nil ?_)
   refine AE.tn_ (AWp.block (AWp.loop (σ := (List Token) × Int × Int) (fun zm zs zst => restr [0, 5, 6, 7] [] 0 zst.env zst.H zst.nxt = some ⟨[(0, ⟨.v (.str src), none⟩), (5, ⟨.v (encL 4 enc_Token zs.1), (some 100)⟩), (6, ⟨.v (.int .i64 zs.2.1), none⟩), (7, ⟨.v (.int .i64 zs.2.2), none⟩)], [], 0⟩ ∧ F_k0_l2 n src zm zs.1 zs.2.1 zs.2.2 = some r) ?_ (n := n) (s := (([] : List Token), 1, 0)) ⟨by kernel_rfl, h⟩))
   clear h
   rintro m2 ⟨v17, v18, v19⟩ st' ⟨hr', h⟩
   cases m2 with
   | zero =>
    have h2 : (none : Option _) = some r := h
    cases h2
   | succ m2 =>
    refine ⟨m2, rfl, AWp.drop _ _ _ hr' (by kernel_rfl) ?_⟩
    clear hr' st'
    replace h : F_k0_b2 n src (F_k0_l2 n src m2) v17 v18 v19 = some r := h
    unfold F_k0_b2 at h
    refine AWp.seq (AWp.seq (AWp.rg tt_ok [] (by kernel_rfl) all_nil ?_))
    refine AE.tn_ (AWp.cnd h (by kernel_rfl) ?_ ?_) <;> clear h <;> intro h
    ·refine AWp.skip (AE.tn_ (AWp.block (AWp.cut (fun st' => restr [0, 5, 6, 7] [] 0 st'.env st'.H st'.nxt = some ⟨[(0, ⟨.v (.str src), none⟩), (5, ⟨.v (encL 4 enc_Token v17), (some 100)⟩), (6, ⟨.v (.int .i64 v18), none⟩), (7, ⟨.v (.int .i64 v19), none⟩)], [], 0⟩ ∧ F_k0_j3 n (F_k0_l2 n src m2) src v17 v18 v19 = some r) ?_ ?_)))
     ·refine AWp.seq ?_
      obtain ⟨g20, h⟩ := ass_some h
      refine AWp.rg tt_ok [] (by kernel_rfl) (all_cons g20 all_nil) ?_
      refine AE.tn_ (AWp.block (AWp.seq (AWp.rg tt_ok [] (by kernel_rfl) all_nil ?_)))
      refine AE.tn_ (AWp.cnd h (by kernel_rfl) ?_ ?_) <;> clear h <;> intro h
      ·refine AWp.seq (AWp.rg tt_ok [] (by kernel_rfl) all_nil ?_)
       refine AE.tn_ (AWp.seq (AWp.rg tt_ok [] (by kernel_rfl) all_nil ?_))
       refine AE.tn_ (AWp.exit ?_)
       exact AE.block_miss (by kernel_rfl) (AE.tx_ (AE.block_hit (AE.tn_ ⟨(v17, (IntKind.i64.wrap (v18 + 1)), (IntKind.i64.wrap (v19 + 1))), by kernel_rfl, h⟩)))
      ·refine AWp.cut (fun st' => ∃ (v21 : Bool), restr [0, 5, 6, 7, 20, 27] [] 0 st'.env st'.H st'.nxt = some ⟨[(0, ⟨.v (.str src), none⟩), (5, ⟨.v (encL 4 enc_Token v17), (some 100)⟩), (6, ⟨.v (.int .i64 v18), none⟩), (7, ⟨.v (.int .i64 v19), none⟩), (20, ⟨.v (.int .u8 (((src.getD (v19).toNat 0).toNat : Nat) : Int)), none⟩), (27, ⟨.v (.bool v21), none⟩)], [], 0⟩ ∧ F_k0_j4 n (F_k0_l2 n src m2) src v17 v18 v19 v21 = some r) ?_ ?_
       ·refine AWp.seq (AWp.rg tt_ok [] (by kernel_rfl) all_nil ?_)
        refine AE.tn_ (AWp.cnd h (by kernel_rfl) ?_ ?_) <;> clear h <;> intro h
        ·exact AWp.skip (AE.tn_ ⟨(decide ((((src.getD (v19).toNat 0).toNat : Nat) : Int) = 32)), by kernel_rfl, h⟩)
        ·refine AWp.rg tt_ok [] (by kernel_rfl) all_nil ?_
         exact AE.tn_ ⟨(decide ((((src.getD (v19).toNat 0).toNat : Nat) : Int) = 9)), by kernel_rfl, h⟩
       ·clear h
        rintro st' ⟨v21, hr', h⟩
        refine AWp.drop _ _ _ hr' (by kernel_rfl) ?_
        clear hr' st'
        unfold F_k0_j4 at h
        refine AWp.cnd h (by kernel_rfl) ?_ ?_ <;> clear h <;> intro h
        ·refine AWp.seq (AWp.rg tt_ok [] (by kernel_rfl) all_nil ?_)
         refine AE.tn_ (AWp.exit ?_)
         exact AE.block_miss (by kernel_rfl) (AE.tx_ (AE.block_hit (AE.tn_ ⟨(v17, v18, (IntKind.i64.wrap (v19 + 1))), by kernel_rfl, h⟩)))
        ·refine AWp.seq (AWp.rg tt_ok [] (by kernel_rfl) all_nil ?_)
         refine AE.tn_ (AWp.cnd h (by kernel_rfl) ?_ ?_) <;> clear h <;> intro h
         ·refine AWp.cut (fun st' => ∃ (v27 : Int), restr [0, 5, 6, 7] [] 0 st'.env st'.H st'.nxt = some ⟨[(0, ⟨.v (.str src), none⟩), (5, ⟨.v (encL 4 enc_Token v17), (some 100)⟩), (6, ⟨.v (.int .i64 v18), none⟩), (7, ⟨.v (.int .i64 v27), none⟩)], [], 0⟩ ∧ F_k0_j5 n (F_k0_l2 n src m2) src v17 v18 v27 = some r) ?_ ?_
          ·refine AWp.block (AWp.loop (σ := Int) (fun zm zs zst => restr [0, 5, 6, 7] [] 0 zst.env zst.H zst.nxt = some ⟨[(0, ⟨.v (.str src), none⟩), (5, ⟨.v (encL 4 enc_Token v17), (some 100)⟩), (6, ⟨.v (.int .i64 v18), none⟩), (7, ⟨.v (.int .i64 zs), none⟩)], [], 0⟩ ∧ F_k0_l6 n (F_k0_l2 n src m2) src v17 v18 zm zs = some r) ?_ (n := n) (s := v19) ⟨by kernel_rfl, h⟩)
           clear h
           rintro m6 v24 st' ⟨hr', h⟩
           cases m6 with
           | zero =>
            have h2 : (none : Option _) = some r := h
            cases h2
           | succ m6 =>
            refine ⟨m6, rfl, AWp.drop _ _ _ hr' (by kernel_rfl) ?_⟩
            clear hr' st'
            replace h : F_k0_b6 n (F_k0_l2 n src m2) src v17 v18 (F_k0_l6 n (F_k0_l2 n src m2) src v17 v18 m6) v24 = some r := h
            unfold F_k0_b6 at h
            refine AWp.seq (AWp.seq ?_)
            obtain ⟨g25, h⟩ := ass_some h
            refine AWp.rg tt_ok [] (by kernel_rfl) (all_cons (orT g25) all_nil) ?_
            refine AE.tn_ (AWp.cnd h (by kernel_rfl) ?_ ?_) <;> clear h <;> intro h
            ·refine AWp.skip (AE.tn_ (AWp.block (AWp.rg tt_ok [] (by kernel_rfl) all_nil ?_)))
             exact AE.bn_ (AE.tn_ ⟨(IntKind.i64.wrap (v24 + 1)), by kernel_rfl, h⟩)
            ·refine AWp.exit ?_
             exact AE.tx_ (AE.tx_ (AE.block_hit (AE.tn_ ⟨v24, by kernel_rfl, h⟩)))
          ·clear h
           rintro st' ⟨v27, hr', h⟩
           refine AWp.drop _ _ _ hr' (by kernel_rfl) ?_
           clear hr' st'
           unfold F_k0_j5 at h
           refine AWp.exit ?_
           exact AE.block_miss (by kernel_rfl) (AE.tx_ (AE.block_hit (AE.tn_ ⟨(v17, v18, v27), by kernel_rfl, h⟩)))
         ·exact AWp.skip (AE.bn_ (AE.tn_ ⟨by kernel_rfl, h⟩))
     ·clear h
      rintro st' ⟨hr', h⟩
      refine AWp.drop _ _ _ hr' (by kernel_rfl) ?_
      clear hr' st'
      unfold F_k0_j3 at h
      refine AWp.seq ?_
      obtain ⟨g28, h⟩ := ass_some h
      obtain ⟨r29, hr29, h⟩ := bind_some h
      have pr29 := c_dg0 n (src.drop (v19).toNat) _ hr29
      refine AWp.rg tt_ok [orn pr29 []] (by kernel_rfl) (all_cons pr29 (all_cons g28 all_nil)) ?_
      refine AE.tn_ (AWp.seq (AWp.seq (AWp.rg tt_ok [] (by kernel_rfl) all_nil ?_)))
      refine AE.tn_ (AWp.cnd h (by kernel_rfl) ?_ ?_) <;> clear h <;> intro h
      ·refine AWp.seq (AWp.rg tt_ok [] (by kernel_rfl) all_nil ?_)
       refine AE.tn_ (AWp.ret ?_)
       obtain rfl := Option.some.inj h
       exact AE.tr_ (AE.br_ (AE.tr_ (AE.br_ (AE.tr_ (post_ret (by kernel_rfl))))))
      ·refine AWp.skip (AE.tn_ (AWp.seq (AWp.rg tt_ok [] (by kernel_rfl) all_nil ?_)))
       refine AE.tn_ (AWp.seq ?_)
       obtain ⟨r30, hr30, h⟩ := bind_some h
       have pr30 := c_dm0 n r29.1.Text _ hr30
       refine AWp.rg tt_ok [orn pr30 []] (by kernel_rfl) (all_cons pr30 all_nil) ?_
       refine AE.tn_ (AWp.seq ?_)
       obtain ⟨g31, h⟩ := ass_some h
       refine AWp.rg tt_ok [.val (encL 4 enc_Token ([(⟨r29.1.Kind, r30, r29.1.N, v18⟩ : Token)] : List Token)), .val (encL 4 enc_Token (v17 ++ ([(⟨r29.1.Kind, r30, r29.1.N, v18⟩ : Token)] : List Token)))] (by kernel_rfl) (all_cons (vimp_app (k := 4) (e := enc_Token) v17 ([(⟨r29.1.Kind, r30, r29.1.N, v18⟩ : Token)] : List Token)) (all_cons g31 (all_cons (vimp_litm (k := 4) (e := enc_Token) ([(⟨r29.1.Kind, r30, r29.1.N, v18⟩ : Token)] : List Token)) all_nil))) ?_
       refine AE.tn_ (AWp.rg tt_ok [] (by kernel_rfl) all_nil ?_)
       exact AE.bn_ (AE.tn_ ⟨((v17 ++ ([(⟨r29.1.Kind, r30, r29.1.N, v18⟩ : Token)] : List Token)), v18, (IntKind.i64.wrap (v19 + r29.2.1))), by kernel_rfl, h⟩)
    ·refine AWp.exit ?_
     exact AE.tx_ (AE.tx_ (AE.block_hit (AE.tn_ ⟨v17, by kernel_rfl, h⟩)))
  ·clear h
   rintro st' ⟨v35, hr', h⟩
   refine AWp.drop _ _ _ hr' (by kernel_rfl) ?_
   clear hr' st'
   unfold F_k0_j1 at h
   refine AWp.seq (AWp.rg tt_ok [] (by kernel_rfl) all_nil ?_)
   refine AE.tn_ (AWp.ret ?_)
   obtain rfl := Option.some.inj h
   exact post_ret (by kernel_rfl)
theorem c_be0 (n : Nat) (text : List UInt8) (b0_ : PPz) (r : Bool) (h : F_be0 n text b0_ = some r) : saysOf Tryz.prog 74 [.ptr 0 0, .v (.str text)] [] [[⟨.v (encL 4 enc_Token b0_.tokens), none⟩, ⟨.v (.int .i64 b0_.at_), none⟩]] (.ret (.v (.bool r)) none) [[⟨.v (encL 4 enc_Token b0_.tokens), none⟩, ⟨.v (.int .i64 b0_.at_), none⟩]] := by
 refine sw_ tt_ok Tryz.func74 rfl rfl rfl ?_
 unfold F_be0 at h
 refine AWp.seq (AWp.rg tt_ok [] (by kernel_rfl) all_nil ?_)
 refine AE.tn_ (AWp.seq (AWp.seq (AWp.rgD tt_ok mo_ok [] (by kernel_rfl) all_nil ?_)))
 refine AE.tn_ (AWp.cnd h (by kernel_rfl) ?_ ?_) <;> clear h <;> intro h
 ·refine AWp.seq (AWp.rg tt_ok [] (by kernel_rfl) all_nil ?_)
  refine AE.tn_ (AWp.ret ?_)
  obtain rfl := Option.some.inj h
  exact AE.tr_ (post_ret (by kernel_rfl))
 ·refine AWp.skip (AE.tn_ (AWp.seq ?_))
  obtain ⟨g2, h⟩ := ass_some h
  refine AWp.rgD tt_ok mo_ok [(8, [.raw])] (by kernel_rfl) (all_cons g2 all_nil) ?_
  refine AE.tn_ (AWp.seq (AWp.rg tt_ok [] (by kernel_rfl) all_nil ?_))
  refine AE.tn_ (AWp.ret ?_)
  obtain rfl := Option.some.inj h
  exact post_ret (by kernel_rfl)
theorem c_co0 (n : Nat) (b0_ : PPz) (r : Int × Int) (h : F_co0 n b0_ = some r) : saysOf Tryz.prog 77 [.ptr 0 0] [] [[⟨.v (encL 4 enc_Token b0_.tokens), none⟩, ⟨.v (.int .i64 b0_.at_), none⟩]] (.ret (.tup [.v (.int .i64 r.1), .v (.int .i64 r.2)]) none) [[⟨.v (encL 4 enc_Token b0_.tokens), none⟩, ⟨.v (.int .i64 b0_.at_), none⟩]] := by
 refine sw_ tt_ok Tryz.func77 rfl rfl rfl ?_
 unfold F_co0 at h
 refine AWp.seq (AWp.rg tt_ok [] (by kernel_rfl) all_nil ?_)
 refine AE.tn_ (AWp.seq (AWp.seq (AWp.rgD tt_ok mo_ok [] (by kernel_rfl) all_nil ?_)))
 refine AE.tn_ (AWp.cnd h (by kernel_rfl) ?_ ?_) <;> clear h <;> intro h
 ·refine AWp.seq (AWp.rg tt_ok [] (by kernel_rfl) all_nil ?_)
  refine AE.tn_ (AWp.ret ?_)
  obtain rfl := Option.some.inj h
  exact AE.tr_ (post_ret (by kernel_rfl))
 ·refine AWp.skip (AE.tn_ (AWp.seq ?_))
  obtain ⟨g2, h⟩ := ass_some h
  refine AWp.rgD tt_ok mo_ok [(8, [.raw])] (by kernel_rfl) (all_cons g2 all_nil) ?_
  refine AE.tn_ (AWp.seq (AWp.seq (AWp.rg tt_ok [] (by kernel_rfl) all_nil ?_)))
  refine AE.tn_ (AWp.cnd h (by kernel_rfl) ?_ ?_) <;> clear h <;> intro h
  ·refine AWp.seq (AWp.rg tt_ok [] (by kernel_rfl) all_nil ?_)
   refine AE.tn_ (AWp.ret ?_)
   obtain rfl := Option.some.inj h
   exact AE.tr_ (post_ret (by kernel_rfl))
  ·refine AWp.skip (AE.tn_ (AWp.seq (AWp.seq (AWp.rg tt_ok [] (by kernel_rfl) all_nil ?_))))
   refine AE.tn_ (AWp.block (AWp.seq (AWp.rg tt_ok [] (by kernel_rfl) all_nil ?_)))
   refine AE.tn_ (AWp.cnd h (by kernel_rfl) ?_ ?_) <;> clear h <;> intro h
   ·refine AWp.seq (AWp.rg tt_ok [] (by kernel_rfl) all_nil ?_)
    refine AE.tn_ (AWp.ret ?_)
    obtain rfl := Option.some.inj h
    exact AE.br_ (AE.tr_ (post_ret (by kernel_rfl)))
   ·refine AWp.seq (AWp.rg tt_ok [] (by kernel_rfl) all_nil ?_)
    refine AE.tn_ (AWp.cnd h (by kernel_rfl) ?_ ?_) <;> clear h <;> intro h
    ·refine AWp.seq (AWp.rg tt_ok [] (by kernel_rfl) all_nil ?_)
     refine AE.tn_ (AWp.ret ?_)
     obtain rfl := Option.some.inj h
     exact AE.br_ (AE.tr_ (post_ret (by kernel_rfl)))
    ·refine AWp.seq (AWp.rg tt_ok [] (by kernel_rfl) all_nil ?_)
     refine AE.tn_ (AWp.cnd h (by kernel_rfl) ?_ ?_) <;> clear h <;> intro h
     ·refine AWp.seq (AWp.rg tt_ok [] (by kernel_rfl) all_nil ?_)
      refine AE.tn_ (AWp.ret ?_)
      obtain rfl := Option.some.inj h
      exact AE.br_ (AE.tr_ (post_ret (by kernel_rfl)))
     ·refine AWp.seq (AWp.rg tt_ok [] (by kernel_rfl) all_nil ?_)
      refine AE.tn_ (AWp.cnd h (by kernel_rfl) ?_ ?_) <;> clear h <;> intro h
      ·refine AWp.seq (AWp.rg tt_ok [] (by kernel_rfl) all_nil ?_)
       refine AE.tn_ (AWp.ret ?_)
       obtain rfl := Option.some.inj h
       exact AE.br_ (AE.tr_ (post_ret (by kernel_rfl)))
      ·refine AWp.seq (AWp.rg tt_ok [] (by kernel_rfl) all_nil ?_)
       refine AE.tn_ (AWp.cnd h (by kernel_rfl) ?_ ?_) <;> clear h <;> intro h
       ·refine AWp.seq (AWp.rg tt_ok [] (by kernel_rfl) all_nil ?_)
        refine AE.tn_ (AWp.ret ?_)
        obtain rfl := Option.some.inj h
        exact AE.br_ (AE.tr_ (post_ret (by kernel_rfl)))
       ·refine AWp.seq (AWp.rg tt_ok [] (by kernel_rfl) all_nil ?_)
        refine AE.tn_ (AWp.cnd h (by kernel_rfl) ?_ ?_) <;> clear h <;> intro h
        ·refine AWp.seq (AWp.rg tt_ok [] (by kernel_rfl) all_nil ?_)
         refine AE.tn_ (AWp.ret ?_)
         obtain rfl := Option.some.inj h
         exact AE.br_ (AE.tr_ (post_ret (by kernel_rfl)))
        ·refine AWp.seq (AWp.rg tt_ok [] (by kernel_rfl) all_nil ?_)
         refine AE.tn_ (AWp.cnd h (by kernel_rfl) ?_ ?_) <;> clear h <;> intro h
         ·refine AWp.seq (AWp.rg tt_ok [] (by kernel_rfl) all_nil ?_)
          refine AE.tn_ (AWp.ret ?_)
          obtain rfl := Option.some.inj h
          exact AE.br_ (AE.tr_ (post_ret (by kernel_rfl)))
         ·refine AWp.seq (AWp.rg tt_ok [] (by kernel_rfl) all_nil ?_)
          refine AE.tn_ (AWp.cnd h (by kernel_rfl) ?_ ?_) <;> clear h <;> intro h
          ·refine AWp.seq (AWp.rg tt_ok [] (by kernel_rfl) all_nil ?_)
           refine AE.tn_ (AWp.ret ?_)
           obtain rfl := Option.some.inj h
           exact AE.br_ (AE.tr_ (post_ret (by kernel_rfl)))
          ·refine AWp.seq (AWp.rg tt_ok [] (by kernel_rfl) all_nil ?_)
           refine AE.tn_ (AWp.cnd h (by kernel_rfl) ?_ ?_) <;> clear h <;> intro h
           ·refine AWp.seq (AWp.rg tt_ok [] (by kernel_rfl) all_nil ?_)
            refine AE.tn_ (AWp.ret ?_)
            obtain rfl := Option.some.inj h
            exact AE.br_ (AE.tr_ (post_ret (by kernel_rfl)))
           ·refine AWp.seq (AWp.rg tt_ok [] (by kernel_rfl) all_nil ?_)
            refine AE.tn_ (AWp.cnd h (by kernel_rfl) ?_ ?_) <;> clear h <;> intro h
            ·refine AWp.seq (AWp.rg tt_ok [] (by kernel_rfl) all_nil ?_)
             refine AE.tn_ (AWp.ret ?_)
             obtain rfl := Option.some.inj h
             exact AE.br_ (AE.tr_ (post_ret (by kernel_rfl)))
            ·refine AWp.seq (AWp.rg tt_ok [] (by kernel_rfl) all_nil ?_)
             refine AE.tn_ (AWp.cnd h (by kernel_rfl) ?_ ?_) <;> clear h <;> intro h
             ·refine AWp.seq (AWp.rg tt_ok [] (by kernel_rfl) all_nil ?_)
              refine AE.tn_ (AWp.ret ?_)
              obtain rfl := Option.some.inj h
              exact AE.br_ (AE.tr_ (post_ret (by kernel_rfl)))
             ·refine AWp.seq (AWp.rg tt_ok [] (by kernel_rfl) all_nil ?_)
              refine AE.tn_ (AWp.cnd h (by kernel_rfl) ?_ ?_) <;> clear h <;> intro h
              ·refine AWp.seq (AWp.rg tt_ok [] (by kernel_rfl) all_nil ?_)
               refine AE.tn_ (AWp.ret ?_)
               obtain rfl := Option.some.inj h
               exact AE.br_ (AE.tr_ (post_ret (by kernel_rfl)))
              ·refine AWp.seq (AWp.rg tt_ok [] (by kernel_rfl) all_nil ?_)
               refine AE.tn_ (AWp.cnd h (by kernel_rfl) ?_ ?_) <;> clear h <;> intro h
               ·refine AWp.seq (AWp.rg tt_ok [] (by kernel_rfl) all_nil ?_)
                refine AE.tn_ (AWp.ret ?_)
                obtain rfl := Option.some.inj h
                exact AE.br_ (AE.tr_ (post_ret (by kernel_rfl)))
               ·refine AWp.seq (AWp.rg tt_ok [] (by kernel_rfl) all_nil ?_)
                refine AE.tn_ (AWp.cnd h (by kernel_rfl) ?_ ?_) <;> clear h <;> intro h
                ·refine AWp.seq (AWp.rg tt_ok [] (by kernel_rfl) all_nil ?_)
                 refine AE.tn_ (AWp.ret ?_)
                 obtain rfl := Option.some.inj h
                 exact AE.br_ (AE.tr_ (post_ret (by kernel_rfl)))
                ·refine AWp.skip (AE.bn_ (AE.tn_ ?_))
                 refine AWp.seq (AWp.rg tt_ok [] (by kernel_rfl) all_nil ?_)
                 refine AE.tn_ (AWp.ret ?_)
                 obtain rfl := Option.some.inj h
                 exact post_ret (by kernel_rfl)
theorem c_w0 (n : Nat) (code : Int) (b0_ : PPz) (r : Pn Unit Unit) (h : F_w0 n code b0_ = some r) : saysOf Tryz.prog 73 [.ptr 0 0, .v (.int .i64 code)] [] [[⟨.v (encL 4 enc_Token b0_.tokens), none⟩, ⟨.v (.int .i64 b0_.at_), none⟩]] (Pn.on r (fun za zb => .ret (.tup []) none) (fun zx zb => .pan zx)) (Pn.on r (fun za zb => [[⟨.v (encL 4 enc_Token b0_.tokens), none⟩, ⟨.v (.int .i64 b0_.at_), none⟩]]) (fun zx zb => [[⟨.v (encL 4 enc_Token b0_.tokens), none⟩, ⟨.v (.int .i64 b0_.at_), none⟩]])) := by
 refine sw_ tt_ok Tryz.func73 rfl rfl rfl ?_
 unfold F_w0 at h
 refine AWp.cut (fun st' => restr [0] [0] 1 st'.env st'.H st'.nxt = some ⟨[(0, ⟨.ptr 0 0, none⟩)], [(0, [⟨.v (encL 4 enc_Token b0_.tokens), none⟩, ⟨.v (.int .i64 b0_.at_), none⟩])], 1⟩ ∧ F_w0_j1 n b0_ = some r) ?_ ?_
 ·refine AWp.seq (AWp.rgD tt_ok mo_ok [] (by kernel_rfl) all_nil ?_)
  refine AE.tn_ (AWp.cnd h (by kernel_rfl) ?_ ?_) <;> clear h <;> intro h
  ·obtain ⟨g1, h⟩ := ass_some h
   refine AWp.rgDP tt_ok mo_ok 14 [(8, [.raw])] (x := (.iface 114 (.agg [.int .i64 ((b0_.tokens.getD (b0_.at_).toNat default).Line), .int .i64 code]))) (by kernel_rfl) (all_cons g1 all_nil) (fun _ => ?_)
   obtain rfl := Option.some.inj h
   exact AE.then_pan (post_pan (by kernel_rfl))
  ·exact AWp.skip (AE.tn_ ⟨by kernel_rfl, h⟩)
 ·clear h
  rintro st' ⟨hr', h⟩
  refine AWp.drop _ _ _ hr' (by kernel_rfl) ?_
  clear hr' st'
  unfold F_w0_j1 at h
  refine AWp.cut (fun st' => restr [0] [0] 1 st'.env st'.H st'.nxt = some ⟨[(0, ⟨.ptr 0 0, none⟩)], [(0, [⟨.v (encL 4 enc_Token b0_.tokens), none⟩, ⟨.v (.int .i64 b0_.at_), none⟩])], 1⟩ ∧ F_w0_j2 n b0_ = some r) ?_ ?_
  ·refine AWp.seq (AWp.rg tt_ok [] (by kernel_rfl) all_nil ?_)
   refine AE.tn_ (AWp.cnd h (by kernel_rfl) ?_ ?_) <;> clear h <;> intro h
   ·refine AWp.rgP tt_ok [] (x := (.iface 114 (.agg [.int .i64 1, .int .i64 6]))) (by kernel_rfl) all_nil ?_
    obtain rfl := Option.some.inj h
    exact AE.then_pan (post_pan (by kernel_rfl))
   ·exact AWp.skip (AE.tn_ ⟨by kernel_rfl, h⟩)
  ·clear h
   rintro st' ⟨hr', h⟩
   refine AWp.drop _ _ _ hr' (by kernel_rfl) ?_
   clear hr' st'
   unfold F_w0_j2 at h
   obtain ⟨g2, h⟩ := ass_some h
   refine AWp.rgDP tt_ok mo_ok 15 [(10, [.raw])] (x := (.iface 114 (.agg [.int .i64 ((b0_.tokens.getD ((IntKind.i64.wrap (((b0_.tokens.length : Nat) : Int) - 1))).toNat default).Line), .int .i64 6]))) (by kernel_rfl) (all_cons g2 all_nil) (fun _ => ?_)
   obtain rfl := Option.some.inj h
   exact post_pan (by kernel_rfl)
theorem c_ao0 (n : Nat) (depth : Int) (b0_ : PPz) (r : Pn Int Unit) (h : F_ao0 n depth b0_ = some r) : saysOf Tryz.prog 121 [.ptr 0 0, .v (.int .i64 depth)] [] [[⟨.v (encL 4 enc_Token b0_.tokens), none⟩, ⟨.v (.int .i64 b0_.at_), none⟩]] (Pn.on r (fun za zb => .ret (.v (.int .i64 za)) none) (fun zx zb => .pan zx)) (Pn.on r (fun za zb => [[⟨.v (encL 4 enc_Token b0_.tokens), none⟩, ⟨.v (.int .i64 b0_.at_), none⟩]]) (fun zx zb => [[⟨.v (encL 4 enc_Token b0_.tokens), none⟩, ⟨.v (.int .i64 b0_.at_), none⟩]])) := by
 refine sw_ tt_ok Tryz.func121 rfl rfl rfl ?_
 unfold F_ao0 at h
 refine AWp.seq (AWp.rg tt_ok [] (by kernel_rfl) all_nil ?_)
 refine AE.tn_ (AWp.cut (fun st' => restr [1] [0] 1 st'.env st'.H st'.nxt = some ⟨[(1, ⟨.v (.int .i64 depth), none⟩)], [(0, [⟨.v (encL 4 enc_Token b0_.tokens), none⟩, ⟨.v (.int .i64 b0_.at_), none⟩])], 1⟩ ∧ F_ao0_j1 n depth b0_ = some r) ?_ ?_)
 ·refine AWp.seq (AWp.rg tt_ok [] (by kernel_rfl) all_nil ?_)
  refine AE.tn_ (AWp.cnd h (by kernel_rfl) ?_ ?_) <;> clear h <;> intro h
  ·obtain ⟨r1, hr1, h⟩ := bind_some h
   cases r1 with
   | ret r2 r3 =>
    have pr1 := c_w0 n 2 b0_ _ hr1
    refine AWp.rg tt_ok [orn pr1 []] (by kernel_rfl) (all_cons pr1 all_nil) ?_
    exact AE.tn_ ⟨by kernel_rfl, h⟩
   | pan x4 r3 =>
    have pr1 := c_w0 n 2 b0_ _ hr1
    refine AWp.rgP tt_ok [orn pr1 []] (x := x4) (by kernel_rfl) (all_cons pr1 all_nil) ?_
    obtain rfl := Option.some.inj h
    exact AE.then_pan (post_pan (by kernel_rfl))
  ·exact AWp.skip (AE.tn_ ⟨by kernel_rfl, h⟩)
 ·clear h
  rintro st' ⟨hr', h⟩
  refine AWp.drop _ _ _ hr' (by kernel_rfl) ?_
  clear hr' st'
  unfold F_ao0_j1 at h
  refine AWp.seq (AWp.rg tt_ok [] (by kernel_rfl) all_nil ?_)
  refine AE.tn_ (AWp.ret ?_)
  obtain rfl := Option.some.inj h
  exact post_ret (by kernel_rfl)
theorem c_cs0 (n : Nat) (b0_ : PPz) (r : Int) (h : F_cs0 n b0_ = some r) : saysOf Tryz.prog 122 [.ptr 0 0] [] [[⟨.v (encL 4 enc_Token b0_.tokens), none⟩, ⟨.v (.int .i64 b0_.at_), none⟩]] (.ret (.v (.int .i64 r)) none) [[⟨.v (encL 4 enc_Token b0_.tokens), none⟩, ⟨.v (.int .i64 b0_.at_), none⟩]] := by
 refine sw_ tt_ok Tryz.func122 rfl rfl rfl ?_
 unfold F_cs0 at h
 refine AWp.seq (AWp.rg tt_ok [] (by kernel_rfl) all_nil ?_)
 refine AE.tn_ (AWp.seq (AWp.seq ?_))
 obtain ⟨g1, h⟩ := ass_some h
 refine AWp.rgD tt_ok mo_ok [(19, [.raw])] (by kernel_rfl) (all_cons (orF g1) all_nil) ?_
 refine AE.tn_ (AWp.cnd h (by kernel_rfl) ?_ ?_) <;> clear h <;> intro h
 ·refine AWp.seq (AWp.rg tt_ok [] (by kernel_rfl) all_nil ?_)
  refine AE.tn_ (AWp.ret ?_)
  obtain rfl := Option.some.inj h
  exact AE.tr_ (post_ret (by kernel_rfl))
 ·refine AWp.skip (AE.tn_ (AWp.seq (AWp.seq ?_)))
  obtain ⟨g3, h⟩ := ass_some h
  refine AWp.rgD tt_ok mo_ok [(8, [.raw])] (by kernel_rfl) (all_cons g3 all_nil) ?_
  refine AE.tn_ (AWp.block (AWp.seq (AWp.rg tt_ok [] (by kernel_rfl) all_nil ?_)))
  refine AE.tn_ (AWp.cnd h (by kernel_rfl) ?_ ?_) <;> clear h <;> intro h
  ·refine AWp.seq (AWp.rg tt_ok [] (by kernel_rfl) all_nil ?_)
   refine AE.tn_ (AWp.ret ?_)
   obtain rfl := Option.some.inj h
   exact AE.br_ (AE.tr_ (post_ret (by kernel_rfl)))
  ·refine AWp.seq (AWp.rg tt_ok [] (by kernel_rfl) all_nil ?_)
   refine AE.tn_ (AWp.cnd h (by kernel_rfl) ?_ ?_) <;> clear h <;> intro h
   ·refine AWp.seq (AWp.rg tt_ok [] (by kernel_rfl) all_nil ?_)
    refine AE.tn_ (AWp.ret ?_)
    obtain rfl := Option.some.inj h
    exact AE.br_ (AE.tr_ (post_ret (by kernel_rfl)))
   ·refine AWp.seq (AWp.rg tt_ok [] (by kernel_rfl) all_nil ?_)
    refine AE.tn_ (AWp.cnd h (by kernel_rfl) ?_ ?_) <;> clear h <;> intro h
    ·refine AWp.seq (AWp.rg tt_ok [] (by kernel_rfl) all_nil ?_)
     refine AE.tn_ (AWp.ret ?_)
     obtain rfl := Option.some.inj h
     exact AE.br_ (AE.tr_ (post_ret (by kernel_rfl)))
    ·refine AWp.seq (AWp.rg tt_ok [] (by kernel_rfl) all_nil ?_)
     refine AE.tn_ (AWp.cnd h (by kernel_rfl) ?_ ?_) <;> clear h <;> intro h
     ·refine AWp.seq (AWp.rg tt_ok [] (by kernel_rfl) all_nil ?_)
      refine AE.tn_ (AWp.ret ?_)
      obtain rfl := Option.some.inj h
      exact AE.br_ (AE.tr_ (post_ret (by kernel_rfl)))
     ·refine AWp.seq (AWp.rg tt_ok [] (by kernel_rfl) all_nil ?_)
      refine AE.tn_ (AWp.cnd h (by kernel_rfl) ?_ ?_) <;> clear h <;> intro h
      ·refine AWp.seq (AWp.rg tt_ok [] (by kernel_rfl) all_nil ?_)
       refine AE.tn_ (AWp.ret ?_)
       obtain rfl := Option.some.inj h
       exact AE.br_ (AE.tr_ (post_ret (by kernel_rfl)))
      ·refine AWp.seq (AWp.rg tt_ok [] (by kernel_rfl) all_nil ?_)
       refine AE.tn_ (AWp.cnd h (by kernel_rfl) ?_ ?_) <;> clear h <;> intro h
       ·refine AWp.seq (AWp.rg tt_ok [] (by kernel_rfl) all_nil ?_)
        refine AE.tn_ (AWp.ret ?_)
        obtain rfl := Option.some.inj h
        exact AE.br_ (AE.tr_ (post_ret (by kernel_rfl)))
       ·refine AWp.seq (AWp.rg tt_ok [] (by kernel_rfl) all_nil ?_)
        refine AE.tn_ (AWp.cnd h (by kernel_rfl) ?_ ?_) <;> clear h <;> intro h
        ·refine AWp.seq (AWp.rg tt_ok [] (by kernel_rfl) all_nil ?_)
         refine AE.tn_ (AWp.ret ?_)
         obtain rfl := Option.some.inj h
         exact AE.br_ (AE.tr_ (post_ret (by kernel_rfl)))
        ·refine AWp.seq (AWp.rg tt_ok [] (by kernel_rfl) all_nil ?_)
         refine AE.tn_ (AWp.cnd h (by kernel_rfl) ?_ ?_) <;> clear h <;> intro h
         ·refine AWp.seq (AWp.rg tt_ok [] (by kernel_rfl) all_nil ?_)
          refine AE.tn_ (AWp.ret ?_)
          obtain rfl := Option.some.inj h
          exact AE.br_ (AE.tr_ (post_ret (by kernel_rfl)))
         ·refine AWp.skip (AE.bn_ (AE.tn_ ?_))
          refine AWp.seq (AWp.rg tt_ok [] (by kernel_rfl) all_nil ?_)
          refine AE.tn_ (AWp.ret ?_)
          obtain rfl := Option.some.inj h
          exact post_ret (by kernel_rfl)
theorem c_u0 (n : Nat) (text : List UInt8) (b0_ : PPz) (r : Bool × Int) (h : F_u0 n text b0_ = some r) : saysOf Tryz.prog 87 [.ptr 0 0, .v (.str text)] [] [[⟨.v (encL 4 enc_Token b0_.tokens), none⟩, ⟨.v (.int .i64 b0_.at_), none⟩]] (.ret (.v (.bool r.1)) none) [[⟨.v (encL 4 enc_Token b0_.tokens), none⟩, ⟨.v (.int .i64 r.2), none⟩]] := by
 refine sw_ tt_ok Tryz.func87 rfl rfl rfl ?_
 unfold F_u0 at h
 refine AWp.seq (AWp.rg tt_ok [] (by kernel_rfl) all_nil ?_)
 refine AE.tn_ (AWp.seq (AWp.seq ?_))
 obtain ⟨r1, hr1, h⟩ := bind_some h
 have pr1 := c_be0 n text b0_ _ hr1
 refine AWp.rg tt_ok [orn pr1 []] (by kernel_rfl) (all_cons pr1 all_nil) ?_
 refine AE.tn_ (AWp.cnd h (by kernel_rfl) ?_ ?_) <;> clear h <;> intro h
 ·refine AWp.seq (AWp.rg tt_ok [] (by kernel_rfl) all_nil ?_)
  refine AE.tn_ (AWp.ret ?_)
  obtain rfl := Option.some.inj h
  exact AE.tr_ (post_ret (by kernel_rfl))
 ·refine AWp.skip (AE.tn_ (AWp.seq (AWp.rg tt_ok [] (by kernel_rfl) all_nil ?_)))
  refine AE.tn_ (AWp.seq (AWp.rg tt_ok [] (by kernel_rfl) all_nil ?_))
  refine AE.tn_ (AWp.ret ?_)
  obtain rfl := Option.some.inj h
  exact post_ret (by kernel_rfl)
theorem c_m0 (n : Nat) (text : List UInt8) (b0_ : PPz) (r : Pn Unit Int) (h : F_m0 n text b0_ = some r) : saysOf Tryz.prog 85 [.ptr 0 0, .v (.str text)] [] [[⟨.v (encL 4 enc_Token b0_.tokens), none⟩, ⟨.v (.int .i64 b0_.at_), none⟩]] (Pn.on r (fun za zb => .ret (.tup []) none) (fun zx zb => .pan zx)) (Pn.on r (fun za zb => [[⟨.v (encL 4 enc_Token b0_.tokens), none⟩, ⟨.v (.int .i64 zb), none⟩]]) (fun zx zb => [[⟨.v (encL 4 enc_Token b0_.tokens), none⟩, ⟨.v (.int .i64 zb), none⟩]])) := by
 refine sw_ tt_ok Tryz.func85 rfl rfl rfl ?_
 unfold F_m0 at h
 refine AWp.seq ?_
 obtain ⟨r1, hr1, h⟩ := bind_some h
 have pr1 := c_u0 n text b0_ _ hr1
 refine AWp.rg tt_ok [orc pr1 []] (by kernel_rfl) (all_cons pr1 all_nil) ?_
 refine AE.tn_ (AWp.cnd h (by kernel_rfl) ?_ ?_) <;> clear h <;> intro h
 ·obtain ⟨r3, hr3, h⟩ := bind_some h
  cases r3 with
  | ret r4 r5 =>
   have pr3 := c_w0 n 5 (⟨b0_.tokens, r1.2⟩ : PPz) _ hr3
   refine AWp.rg tt_ok [orn pr3 []] (by kernel_rfl) (all_cons pr3 all_nil) ?_
   obtain rfl := Option.some.inj h
   exact post_normal (by kernel_rfl)
  | pan x6 r5 =>
   have pr3 := c_w0 n 5 (⟨b0_.tokens, r1.2⟩ : PPz) _ hr3
   refine AWp.rgP tt_ok [orn pr3 []] (x := x6) (by kernel_rfl) (all_cons pr3 all_nil) ?_
   obtain rfl := Option.some.inj h
   exact post_pan (by kernel_rfl)
 ·refine AWp.skip ?_
  obtain rfl := Option.some.inj h
  exact post_normal (by kernel_rfl)
theorem cB_parser_parser_expr (n : Nat) (f_a0 : Int → Int → PPz → Option (Pn Expr Int)) (f_e0 : Int → Int → Int → PPz → Option (Pn Expr Int)) (f_c0 : Int → PPz → Option (Pn Expr Int)) (f_f0 : Int → PPz → Option (Pn Expr Int)) (i_a0 : ∀ (level : Int) (depth : Int) (b0_ : PPz) (r : Pn Expr Int), f_a0 level depth b0_ = some r → saysOf Tryz.prog 33 [.ptr 0 0, .v (.int .i64 level), .v (.int .i64 depth)] [] [[⟨.v (encL 4 enc_Token b0_.tokens), none⟩, ⟨.v (.int .i64 b0_.at_), none⟩]] (Pn.on r (fun za zb => .ret (.v (.agg [.int .i64 za.Op, .int .i64 za.N, .str za.S, encL 4 enc_Expr za.Args])) none) (fun zx zb => .pan zx)) (Pn.on r (fun za zb => [[⟨.v (encL 4 enc_Token b0_.tokens), none⟩, ⟨.v (.int .i64 zb), none⟩]]) (fun zx zb => [[⟨.v (encL 4 enc_Token b0_.tokens), none⟩, ⟨.v (.int .i64 zb), none⟩]]))) (i_e0 : ∀ (op : Int) (level : Int) (depth : Int) (b0_ : PPz) (r : Pn Expr Int), f_e0 op level depth b0_ = some r → saysOf Tryz.prog 75 [.ptr 0 0, .v (.int .i64 op), .v (.int .i64 level), .v (.int .i64 depth)] [] [[⟨.v (encL 4 enc_Token b0_.tokens), none⟩, ⟨.v (.int .i64 b0_.at_), none⟩]] (Pn.on r (fun za zb => .ret (.v (.agg [.int .i64 za.Op, .int .i64 za.N, .str za.S, encL 4 enc_Expr za.Args])) none) (fun zx zb => .pan zx)) (Pn.on r (fun za zb => [[⟨.v (encL 4 enc_Token b0_.tokens), none⟩, ⟨.v (.int .i64 zb), none⟩]]) (fun zx zb => [[⟨.v (encL 4 enc_Token b0_.tokens), none⟩, ⟨.v (.int .i64 zb), none⟩]]))) (i_c0 : ∀ (depth : Int) (b0_ : PPz) (r : Pn Expr Int), f_c0 depth b0_ = some r → saysOf Tryz.prog 76 [.ptr 0 0, .v (.int .i64 depth)] [] [[⟨.v (encL 4 enc_Token b0_.tokens), none⟩, ⟨.v (.int .i64 b0_.at_), none⟩]] (Pn.on r (fun za zb => .ret (.v (.agg [.int .i64 za.Op, .int .i64 za.N, .str za.S, encL 4 enc_Expr za.Args])) none) (fun zx zb => .pan zx)) (Pn.on r (fun za zb => [[⟨.v (encL 4 enc_Token b0_.tokens), none⟩, ⟨.v (.int .i64 zb), none⟩]]) (fun zx zb => [[⟨.v (encL 4 enc_Token b0_.tokens), none⟩, ⟨.v (.int .i64 zb), none⟩]]))) (i_f0 : ∀ (depth : Int) (b0_ : PPz) (r : Pn Expr Int), f_f0 depth b0_ = some r → saysOf Tryz.prog 123 [.ptr 0 0, .v (.int .i64 depth)] [] [[⟨.v (encL 4 enc_Token b0_.tokens), none⟩, ⟨.v (.int .i64 b0_.at_), none⟩]] (Pn.on r (fun za zb => .ret (.v (.agg [.int .i64 za.Op, .int .i64 za.N, .str za.S, encL 4 enc_Expr za.Args])) none) (fun zx zb => .pan zx)) (Pn.on r (fun za zb => [[⟨.v (encL 4 enc_Token b0_.tokens), none⟩, ⟨.v (.int .i64 zb), none⟩]]) (fun zx zb => [[⟨.v (encL 4 enc_Token b0_.tokens), none⟩, ⟨.v (.int .i64 zb), none⟩]]))) (level : Int) (depth : Int) (b0_ : PPz) (r : Pn Expr Int) (h : B_a0 n f_a0 f_e0 f_c0 f_f0 level depth b0_ = some r) : saysOf Tryz.prog 33 [.ptr 0 0, .v (.int .i64 level), .v (.int .i64 depth)] [] [[⟨.v (encL 4 enc_Token b0_.tokens), none⟩, ⟨.v (.int .i64 b0_.at_), none⟩]] (Pn.on r (fun za zb => .ret (.v (.agg [.int .i64 za.Op, .int .i64 za.N, .str za.S, encL 4 enc_Expr za.Args])) none) (fun zx zb => .pan zx)) (Pn.on r (fun za zb => [[⟨.v (encL 4 enc_Token b0_.tokens), none⟩, ⟨.v (.int .i64 zb), none⟩]]) (fun zx zb => [[⟨.v (encL 4 enc_Token b0_.tokens), none⟩, ⟨.v (.int .i64 zb), none⟩]])) := by
 refine sw_ tt_ok Tryz.func33 rfl rfl rfl ?_
 unfold B_a0 at h
 refine AWp.seq (AWp.rg tt_ok [] (by kernel_rfl) all_nil ?_)
 refine AE.tn_ (AWp.seq (AWp.seq (AWp.rg tt_ok [] (by kernel_rfl) all_nil ?_)))
 refine AE.tn_ (AWp.block (AWp.seq (AWp.rg tt_ok [] (by kernel_rfl) all_nil ?_)))
 refine AE.tn_ (AWp.cnd h (by kernel_rfl) ?_ ?_) <;> clear h <;> intro h
 ·refine AWp.seq (AWp.seq ?_)
  obtain ⟨r2, hr2, h⟩ := bind_some h
  have pr2 := c_be0 n ([110, 111, 116] : List UInt8) b0_ _ hr2
  refine AWp.rg tt_ok [orn pr2 []] (by kernel_rfl) (all_cons pr2 all_nil) ?_
  refine AE.tn_ (AWp.cnd h (by kernel_rfl) ?_ ?_) <;> clear h <;> intro h
  ·refine AWp.seq ?_
   obtain ⟨r4, hr4, h⟩ := bind_some h
   cases r4 with
   | ret r5 r6 =>
    have pr4 := i_e0 18 level depth b0_ _ hr4
    refine AWp.rg tt_ok [orc pr4 []] (by kernel_rfl) (all_cons pr4 all_nil) ?_
    refine AE.tn_ (AWp.ret ?_)
    obtain rfl := Option.some.inj h
    exact AE.tr_ (AE.br_ (AE.tr_ (post_ret (by kernel_rfl))))
   | pan x7 r6 =>
    have pr4 := i_e0 18 level depth b0_ _ hr4
    refine AWp.rgP tt_ok [orc pr4 []] (x := x7) (by kernel_rfl) (all_cons pr4 all_nil) ?_
    obtain rfl := Option.some.inj h
    exact AE.then_pan (AE.then_pan (AE.block_pan (AE.then_pan (post_pan (by kernel_rfl)))))
  ·refine AWp.skip (AE.tn_ (AWp.seq ?_))
   obtain ⟨r8, hr8, h⟩ := bind_some h
   cases r8 with
   | ret r9 r10 =>
    have pr8 := i_a0 4 depth b0_ _ hr8
    refine AWp.rg tt_ok [orc pr8 []] (by kernel_rfl) (all_cons pr8 all_nil) ?_
    refine AE.tn_ (AWp.ret ?_)
    obtain rfl := Option.some.inj h
    exact AE.br_ (AE.tr_ (post_ret (by kernel_rfl)))
   | pan x11 r10 =>
    have pr8 := i_a0 4 depth b0_ _ hr8
    refine AWp.rgP tt_ok [orc pr8 []] (x := x11) (by kernel_rfl) (all_cons pr8 all_nil) ?_
    obtain rfl := Option.some.inj h
    exact AE.then_pan (AE.block_pan (AE.then_pan (post_pan (by kernel_rfl))))
 ·refine AWp.seq (AWp.rg tt_ok [] (by kernel_rfl) all_nil ?_)
  refine AE.tn_ (AWp.cnd h (by kernel_rfl) ?_ ?_) <;> clear h <;> intro h
  ·refine AWp.seq (AWp.seq ?_)
   obtain ⟨r13, hr13, h⟩ := bind_some h
   have pr13 := c_be0 n ([45] : List UInt8) b0_ _ hr13
   refine AWp.rg tt_ok [orn pr13 []] (by kernel_rfl) (all_cons pr13 all_nil) ?_
   refine AE.tn_ (AWp.cnd h (by kernel_rfl) ?_ ?_) <;> clear h <;> intro h
   ·refine AWp.seq ?_
    obtain ⟨r15, hr15, h⟩ := bind_some h
    cases r15 with
    | ret r16 r17 =>
     have pr15 := i_e0 9 level depth b0_ _ hr15
     refine AWp.rg tt_ok [orc pr15 []] (by kernel_rfl) (all_cons pr15 all_nil) ?_
     refine AE.tn_ (AWp.ret ?_)
     obtain rfl := Option.some.inj h
     exact AE.tr_ (AE.br_ (AE.tr_ (post_ret (by kernel_rfl))))
    | pan x18 r17 =>
     have pr15 := i_e0 9 level depth b0_ _ hr15
     refine AWp.rgP tt_ok [orc pr15 []] (x := x18) (by kernel_rfl) (all_cons pr15 all_nil) ?_
     obtain rfl := Option.some.inj h
     exact AE.then_pan (AE.then_pan (AE.block_pan (AE.then_pan (post_pan (by kernel_rfl)))))
   ·refine AWp.skip (AE.tn_ (AWp.seq ?_))
    obtain ⟨r19, hr19, h⟩ := bind_some h
    cases r19 with
    | ret r20 r21 =>
     have pr19 := i_c0 depth b0_ _ hr19
     refine AWp.rg tt_ok [orc pr19 []] (by kernel_rfl) (all_cons pr19 all_nil) ?_
     refine AE.tn_ (AWp.ret ?_)
     obtain rfl := Option.some.inj h
     exact AE.br_ (AE.tr_ (post_ret (by kernel_rfl)))
    | pan x22 r21 =>
     have pr19 := i_c0 depth b0_ _ hr19
     refine AWp.rgP tt_ok [orc pr19 []] (x := x22) (by kernel_rfl) (all_cons pr19 all_nil) ?_
     obtain rfl := Option.some.inj h
     exact AE.then_pan (AE.block_pan (AE.then_pan (post_pan (by kernel_rfl))))
  ·refine AWp.skip (AE.bn_ (AE.tn_ ?_))
   refine AWp.seq ?_
   obtain ⟨r23, hr23, h⟩ := bind_some h
   cases r23 with
   | ret r24 r25 =>
    have pr23 := i_a0 (IntKind.i64.wrap (level + 1)) depth b0_ _ hr23
    refine AWp.rg tt_ok [orc pr23 []] (by kernel_rfl) (all_cons pr23 all_nil) ?_
    refine AE.tn_ (AWp.block (AWp.loop (σ := Int × Int × Int × (List UInt8) × (List Expr)) (fun zm zs zst => restr [0, 1, 2, 6, 7] [0, 1, 2] 3 zst.env zst.H zst.nxt = some ⟨[(0, ⟨.ptr 0 0, none⟩), (1, ⟨.v (.int .i64 level), none⟩), (2, ⟨.v (.int .i64 depth), none⟩), (6, ⟨.ptr 1 0, none⟩), (7, ⟨.ptr 2 0, none⟩)], [(0, [⟨.v (encL 4 enc_Token b0_.tokens), none⟩, ⟨.v (.int .i64 zs.1), none⟩]), (1, [⟨.v (.int .i64 0), none⟩, ⟨.v (.int .i64 0), none⟩, ⟨.v (.str ([] : List UInt8)), none⟩, ⟨.v (encL 4 enc_Expr ([] : List Expr)), (some 26)⟩]), (2, [⟨.v (.int .i64 zs.2.1), none⟩, ⟨.v (.int .i64 zs.2.2.1), none⟩, ⟨.v (.str zs.2.2.2.1), none⟩, ⟨.v (encL 4 enc_Expr zs.2.2.2.2), none⟩])], 3⟩ ∧ F_a0_l1 n f_a0 f_e0 f_c0 f_f0 level depth b0_ zm zs.1 zs.2.1 zs.2.2.1 zs.2.2.2.1 zs.2.2.2.2 = some r) ?_ (n := n) (s := (r25, r24.Op, r24.N, r24.S, r24.Args)) ⟨by kernel_rfl, h⟩))
    clear h
    rintro m1 ⟨v37, v38, v39, v40, v41⟩ st' ⟨hr', h⟩
    cases m1 with
    | zero =>
     have h2 : (none : Option _) = some r := h
     cases h2
    | succ m1 =>
     refine ⟨m1, rfl, AWp.drop _ _ _ hr' (by kernel_rfl) ?_⟩
     clear hr' st'
     replace h : F_a0_b1 n f_a0 f_e0 f_c0 f_f0 level depth b0_ (F_a0_l1 n f_a0 f_e0 f_c0 f_f0 level depth b0_ m1) v37 v38 v39 v40 v41 = some r := h
     unfold F_a0_b1 at h
     refine AWp.block (AWp.seq ?_)
     obtain ⟨r42, hr42, h⟩ := bind_some h
     have pr42 := c_co0 n (⟨b0_.tokens, v37⟩ : PPz) _ hr42
     refine AWp.rg tt_ok [orn pr42 []] (by kernel_rfl) (all_cons pr42 all_nil) ?_
     refine AE.tn_ (AWp.seq (AWp.seq (AWp.rg tt_ok [] (by kernel_rfl) all_nil ?_)))
     refine AE.tn_ (AWp.cnd h (by kernel_rfl) ?_ ?_) <;> clear h <;> intro h
     ·refine AWp.seq (AWp.rg tt_ok [] (by kernel_rfl) all_nil ?_)
      refine AE.tn_ (AWp.ret ?_)
      obtain rfl := Option.some.inj h
      exact AE.tr_ (AE.br_ (AE.tr_ (AE.br_ (post_ret (by kernel_rfl)))))
     ·refine AWp.skip (AE.tn_ (AWp.seq (AWp.rg tt_ok [] (by kernel_rfl) all_nil ?_)))
      refine AE.tn_ (AWp.seq ?_)
      obtain ⟨r43, hr43, h⟩ := bind_some h
      cases r43 with
      | ret r44 r45 =>
       have pr43 := i_a0 (IntKind.i64.wrap (level + 1)) depth (⟨b0_.tokens, (IntKind.i64.wrap (v37 + 1))⟩ : PPz) _ hr43
       refine AWp.rgD tt_ok mo_ok [(6, [orc pr43 []]), (7, [.val (encL 4 enc_Expr ([(⟨v38, v39, v40, v41⟩ : Expr), r44] : List Expr))])] (by kernel_rfl) (all_cons (vimp_lit2 (k := 4) (e := enc_Expr) (xs := [.agg [.int .i64 v38, .int .i64 v39, .str v40, encL 4 enc_Expr v41], .agg [.int .i64 r44.Op, .int .i64 r44.N, .str r44.S, encL 4 enc_Expr r44.Args]]) (l := ([(⟨v38, v39, v40, v41⟩ : Expr), r44] : List Expr)) ((AllV.cons (rev_Expr (⟨v38, v39, v40, v41⟩ : Expr)) (AllV.cons (rev_Expr r44) (AllV.nil)))) 2 rfl) (all_cons pr43 all_nil)) ?_
       refine AE.tn_ (AWp.seq (AWp.rg tt_ok [] (by kernel_rfl) all_nil ?_))
       refine AE.tn_ (AWp.cnd h (by kernel_rfl) ?_ ?_) <;> clear h <;> intro h
       ·refine AWp.seq (AWp.rg tt_ok [] (by kernel_rfl) all_nil ?_)
        refine AE.tn_ (AWp.ret ?_)
        obtain rfl := Option.some.inj h
        exact AE.br_ (AE.tr_ (AE.br_ (post_ret (by kernel_rfl))))
       ·exact AWp.skip (AE.bn_ (AE.tn_ ⟨(r45, r42.2, 0, ([] : List UInt8), ([(⟨v38, v39, v40, v41⟩ : Expr), r44] : List Expr)), by kernel_rfl, h⟩))
      | pan x46 r45 =>
       have pr43 := i_a0 (IntKind.i64.wrap (level + 1)) depth (⟨b0_.tokens, (IntKind.i64.wrap (v37 + 1))⟩ : PPz) _ hr43
       refine AWp.rgDP tt_ok mo_ok 6 [(6, [orc pr43 []])] (x := x46) (by kernel_rfl) (all_cons pr43 all_nil) (fun _ => ?_)
       obtain rfl := Option.some.inj h
       exact AE.then_pan (AE.block_pan (AE.then_pan (AE.block_pan (post_pan (by kernel_rfl)))))
   | pan x26 r25 =>
    have pr23 := i_a0 (IntKind.i64.wrap (level + 1)) depth b0_ _ hr23
    refine AWp.rgP tt_ok [orc pr23 []] (x := x26) (by kernel_rfl) (all_cons pr23 all_nil) ?_
    obtain rfl := Option.some.inj h
    exact AE.then_pan (post_pan (by kernel_rfl))
theorem cB_parser_parser_prefix (n : Nat) (f_a0 : Int → Int → PPz → Option (Pn Expr Int)) (f_e0 : Int → Int → Int → PPz → Option (Pn Expr Int)) (f_c0 : Int → PPz → Option (Pn Expr Int)) (f_f0 : Int → PPz → Option (Pn Expr Int)) (i_a0 : ∀ (level : Int) (depth : Int) (b0_ : PPz) (r : Pn Expr Int), f_a0 level depth b0_ = some r → saysOf Tryz.prog 33 [.ptr 0 0, .v (.int .i64 level), .v (.int .i64 depth)] [] [[⟨.v (encL 4 enc_Token b0_.tokens), none⟩, ⟨.v (.int .i64 b0_.at_), none⟩]] (Pn.on r (fun za zb => .ret (.v (.agg [.int .i64 za.Op, .int .i64 za.N, .str za.S, encL 4 enc_Expr za.Args])) none) (fun zx zb => .pan zx)) (Pn.on r (fun za zb => [[⟨.v (encL 4 enc_Token b0_.tokens), none⟩, ⟨.v (.int .i64 zb), none⟩]]) (fun zx zb => [[⟨.v (encL 4 enc_Token b0_.tokens), none⟩, ⟨.v (.int .i64 zb), none⟩]]))) (i_e0 : ∀ (op : Int) (level : Int) (depth : Int) (b0_ : PPz) (r : Pn Expr Int), f_e0 op level depth b0_ = some r → saysOf Tryz.prog 75 [.ptr 0 0, .v (.int .i64 op), .v (.int .i64 level), .v (.int .i64 depth)] [] [[⟨.v (encL 4 enc_Token b0_.tokens), none⟩, ⟨.v (.int .i64 b0_.at_), none⟩]] (Pn.on r (fun za zb => .ret (.v (.agg [.int .i64 za.Op, .int .i64 za.N, .str za.S, encL 4 enc_Expr za.Args])) none) (fun zx zb => .pan zx)) (Pn.on r (fun za zb => [[⟨.v (encL 4 enc_Token b0_.tokens), none⟩, ⟨.v (.int .i64 zb), none⟩]]) (fun zx zb => [[⟨.v (encL 4 enc_Token b0_.tokens), none⟩, ⟨.v (.int .i64 zb), none⟩]]))) (i_c0 : ∀ (depth : Int) (b0_ : PPz) (r : Pn Expr Int), f_c0 depth b0_ = some r → saysOf Tryz.prog 76 [.ptr 0 0, .v (.int .i64 depth)] [] [[⟨.v (encL 4 enc_Token b0_.tokens), none⟩, ⟨.v (.int .i64 b0_.at_), none⟩]] (Pn.on r (fun za zb => .ret (.v (.agg [.int .i64 za.Op, .int .i64 za.N, .str za.S, encL 4 enc_Expr za.Args])) none) (fun zx zb => .pan zx)) (Pn.on r (fun za zb => [[⟨.v (encL 4 enc_Token b0_.tokens), none⟩, ⟨.v (.int .i64 zb), none⟩]]) (fun zx zb => [[⟨.v (encL 4 enc_Token b0_.tokens), none⟩, ⟨.v (.int .i64 zb), none⟩]]))) (i_f0 : ∀ (depth : Int) (b0_ : PPz) (r : Pn Expr Int), f_f0 depth b0_ = some r → saysOf Tryz.prog 123 [.ptr 0 0, .v (.int .i64 depth)] [] [[⟨.v (encL 4 enc_Token b0_.tokens), none⟩, ⟨.v (.int .i64 b0_.at_), none⟩]] (Pn.on r (fun za zb => .ret (.v (.agg [.int .i64 za.Op, .int .i64 za.N, .str za.S, encL 4 enc_Expr za.Args])) none) (fun zx zb => .pan zx)) (Pn.on r (fun za zb => [[⟨.v (encL 4 enc_Token b0_.tokens), none⟩, ⟨.v (.int .i64 zb), none⟩]]) (fun zx zb => [[⟨.v (encL 4 enc_Token b0_.tokens), none⟩, ⟨.v (.int .i64 zb), none⟩]]))) (op : Int) (level : Int) (depth : Int) (b0_ : PPz) (r : Pn Expr Int) (h : B_e0 n f_a0 f_e0 f_c0 f_f0 op level depth b0_ = some r) : saysOf Tryz.prog 75 [.ptr 0 0, .v (.int .i64 op), .v (.int .i64 level), .v (.int .i64 depth)] [] [[⟨.v (encL 4 enc_Token b0_.tokens), none⟩, ⟨.v (.int .i64 b0_.at_), none⟩]] (Pn.on r (fun za zb => .ret (.v (.agg [.int .i64 za.Op, .int .i64 za.N, .str za.S, encL 4 enc_Expr za.Args])) none) (fun zx zb => .pan zx)) (Pn.on r (fun za zb => [[⟨.v (encL 4 enc_Token b0_.tokens), none⟩, ⟨.v (.int .i64 zb), none⟩]]) (fun zx zb => [[⟨.v (encL 4 enc_Token b0_.tokens), none⟩, ⟨.v (.int .i64 zb), none⟩]])) := by
 refine sw_ tt_ok Tryz.func75 rfl rfl rfl ?_
 unfold B_e0 at h
 refine AWp.seq (AWp.rg tt_ok [] (by kernel_rfl) all_nil ?_)
 refine AE.tn_ (AWp.seq ?_)
 obtain ⟨r1, hr1, h⟩ := bind_some h
 cases r1 with
 | ret r2 r3 =>
  have pr1 := c_ao0 n depth b0_ _ hr1
  refine AWp.rg tt_ok [orn pr1 []] (by kernel_rfl) (all_cons pr1 all_nil) ?_
  refine AE.tn_ (AWp.seq (AWp.rg tt_ok [] (by kernel_rfl) all_nil ?_))
  refine AE.tn_ (AWp.seq ?_)
  obtain ⟨r5, hr5, h⟩ := bind_some h
  cases r5 with
  | ret r6 r7 =>
   have pr5 := i_a0 level r2 (⟨b0_.tokens, (IntKind.i64.wrap (b0_.at_ + 1))⟩ : PPz) _ hr5
   refine AWp.rg tt_ok [orc pr5 [], .val (encL 4 enc_Expr ([r6] : List Expr))] (by kernel_rfl) (all_cons (vimp_lit2 (k := 4) (e := enc_Expr) (xs := [.agg [.int .i64 r6.Op, .int .i64 r6.N, .str r6.S, encL 4 enc_Expr r6.Args]]) (l := ([r6] : List Expr)) (AllV.cons (rev_Expr r6) (AllV.nil)) 1 rfl) (all_cons pr5 all_nil)) ?_
   refine AE.tn_ (AWp.ret ?_)
   obtain rfl := Option.some.inj h
   exact post_ret (by kernel_rfl)
  | pan x8 r7 =>
   have pr5 := i_a0 level r2 (⟨b0_.tokens, (IntKind.i64.wrap (b0_.at_ + 1))⟩ : PPz) _ hr5
   refine AWp.rgP tt_ok [orc pr5 []] (x := x8) (by kernel_rfl) (all_cons pr5 all_nil) ?_
   obtain rfl := Option.some.inj h
   exact AE.then_pan (post_pan (by kernel_rfl))
 | pan x4 r3 =>
  have pr1 := c_ao0 n depth b0_ _ hr1
  refine AWp.rgP tt_ok [orn pr1 []] (x := x4) (by kernel_rfl) (all_cons pr1 all_nil) ?_
  obtain rfl := Option.some.inj h
  exact AE.then_pan (post_pan (by kernel_rfl))
theorem cB_parser_parser_unit (n : Nat) (f_a0 : Int → Int → PPz → Option (Pn Expr Int)) (f_e0 : Int → Int → Int → PPz → Option (Pn Expr Int)) (f_c0 : Int → PPz → Option (Pn Expr Int)) (f_f0 : Int → PPz → Option (Pn Expr Int)) (i_a0 : ∀ (level : Int) (depth : Int) (b0_ : PPz) (r : Pn Expr Int), f_a0 level depth b0_ = some r → saysOf Tryz.prog 33 [.ptr 0 0, .v (.int .i64 level), .v (.int .i64 depth)] [] [[⟨.v (encL 4 enc_Token b0_.tokens), none⟩, ⟨.v (.int .i64 b0_.at_), none⟩]] (Pn.on r (fun za zb => .ret (.v (.agg [.int .i64 za.Op, .int .i64 za.N, .str za.S, encL 4 enc_Expr za.Args])) none) (fun zx zb => .pan zx)) (Pn.on r (fun za zb => [[⟨.v (encL 4 enc_Token b0_.tokens), none⟩, ⟨.v (.int .i64 zb), none⟩]]) (fun zx zb => [[⟨.v (encL 4 enc_Token b0_.tokens), none⟩, ⟨.v (.int .i64 zb), none⟩]]))) (i_e0 : ∀ (op : Int) (level : Int) (depth : Int) (b0_ : PPz) (r : Pn Expr Int), f_e0 op level depth b0_ = some r → saysOf Tryz.prog 75 [.ptr 0 0, .v (.int .i64 op), .v (.int .i64 level), .v (.int .i64 depth)] [] [[⟨.v (encL 4 enc_Token b0_.tokens), none⟩, ⟨.v (.int .i64 b0_.at_), none⟩]] (Pn.on r (fun za zb => .ret (.v (.agg [.int .i64 za.Op, .int .i64 za.N, .str za.S, encL 4 enc_Expr za.Args])) none) (fun zx zb => .pan zx)) (Pn.on r (fun za zb => [[⟨.v (encL 4 enc_Token b0_.tokens), none⟩, ⟨.v (.int .i64 zb), none⟩]]) (fun zx zb => [[⟨.v (encL 4 enc_Token b0_.tokens), none⟩, ⟨.v (.int .i64 zb), none⟩]]))) (i_c0 : ∀ (depth : Int) (b0_ : PPz) (r : Pn Expr Int), f_c0 depth b0_ = some r → saysOf Tryz.prog 76 [.ptr 0 0, .v (.int .i64 depth)] [] [[⟨.v (encL 4 enc_Token b0_.tokens), none⟩, ⟨.v (.int .i64 b0_.at_), none⟩]] (Pn.on r (fun za zb => .ret (.v (.agg [.int .i64 za.Op, .int .i64 za.N, .str za.S, encL 4 enc_Expr za.Args])) none) (fun zx zb => .pan zx)) (Pn.on r (fun za zb => [[⟨.v (encL 4 enc_Token b0_.tokens), none⟩, ⟨.v (.int .i64 zb), none⟩]]) (fun zx zb => [[⟨.v (encL 4 enc_Token b0_.tokens), none⟩, ⟨.v (.int .i64 zb), none⟩]]))) (i_f0 : ∀ (depth : Int) (b0_ : PPz) (r : Pn Expr Int), f_f0 depth b0_ = some r → saysOf Tryz.prog 123 [.ptr 0 0, .v (.int .i64 depth)] [] [[⟨.v (encL 4 enc_Token b0_.tokens), none⟩, ⟨.v (.int .i64 b0_.at_), none⟩]] (Pn.on r (fun za zb => .ret (.v (.agg [.int .i64 za.Op, .int .i64 za.N, .str za.S, encL 4 enc_Expr za.Args])) none) (fun zx zb => .pan zx)) (Pn.on r (fun za zb => [[⟨.v (encL 4 enc_Token b0_.tokens), none⟩, ⟨.v (.int .i64 zb), none⟩]]) (fun zx zb => [[⟨.v (encL 4 enc_Token b0_.tokens), none⟩, ⟨.v (.int .i64 zb), none⟩]]))) (depth : Int) (b0_ : PPz) (r : Pn Expr Int) (h : B_c0 n f_a0 f_e0 f_c0 f_f0 depth b0_ = some r) : saysOf Tryz.prog 76 [.ptr 0 0, .v (.int .i64 depth)] [] [[⟨.v (encL 4 enc_Token b0_.tokens), none⟩, ⟨.v (.int .i64 b0_.at_), none⟩]] (Pn.on r (fun za zb => .ret (.v (.agg [.int .i64 za.Op, .int .i64 za.N, .str za.S, encL 4 enc_Expr za.Args])) none) (fun zx zb => .pan zx)) (Pn.on r (fun za zb => [[⟨.v (encL 4 enc_Token b0_.tokens), none⟩, ⟨.v (.int .i64 zb), none⟩]]) (fun zx zb => [[⟨.v (encL 4 enc_Token b0_.tokens), none⟩, ⟨.v (.int .i64 zb), none⟩]])) := by
 refine sw_ tt_ok Tryz.func76 rfl rfl rfl ?_
 unfold B_c0 at h
 refine AWp.seq (AWp.rg tt_ok [] (by kernel_rfl) all_nil ?_)
 refine AE.tn_ (AWp.cut (fun st' => ∃ (v2 : Int), restr [0, 1, 4] [0, 1] 2 st'.env st'.H st'.nxt = some ⟨[(0, ⟨.ptr 0 0, none⟩), (1, ⟨.v (.int .i64 depth), none⟩), (4, ⟨.ptr 1 0, none⟩)], [(0, [⟨.v (encL 4 enc_Token b0_.tokens), none⟩, ⟨.v (.int .i64 v2), none⟩]), (1, [⟨.v (.int .i64 0), none⟩, ⟨.v (.int .i64 0), none⟩, ⟨.v (.str ([] : List UInt8)), none⟩, ⟨.v (encL 4 enc_Expr ([] : List Expr)), (some 26)⟩])], 2⟩ ∧ F_c0_j1 n f_a0 f_e0 f_c0 f_f0 depth b0_ v2 = some r) ?_ ?_)
 ·refine AWp.seq (AWp.rgD tt_ok mo_ok [] (by kernel_rfl) all_nil ?_)
  refine AE.tn_ (AWp.cnd h (by kernel_rfl) ?_ ?_) <;> clear h <;> intro h
  ·refine AWp.seq ?_
   obtain ⟨g1, h⟩ := ass_some h
   refine AWp.rgD tt_ok mo_ok [(8, [.raw])] (by kernel_rfl) (all_cons g1 all_nil) ?_
   refine AE.tn_ (AWp.seq (AWp.rg tt_ok [] (by kernel_rfl) all_nil ?_))
   refine AE.tn_ (AWp.seq (AWp.seq (AWp.rg tt_ok [] (by kernel_rfl) all_nil ?_)))
   refine AE.tn_ (AWp.block (AWp.seq (AWp.rg tt_ok [] (by kernel_rfl) all_nil ?_)))
   refine AE.tn_ (AWp.cnd h (by kernel_rfl) ?_ ?_) <;> clear h <;> intro h
   ·refine AWp.seq (AWp.rg tt_ok [.own] (by kernel_rfl) all_nil ?_)
    refine AE.tn_ (AWp.ret ?_)
    obtain rfl := Option.some.inj h
    exact AE.br_ (AE.tr_ (AE.tr_ (post_ret (by kernel_rfl))))
   ·refine AWp.seq (AWp.rg tt_ok [] (by kernel_rfl) all_nil ?_)
    refine AE.tn_ (AWp.cnd h (by kernel_rfl) ?_ ?_) <;> clear h <;> intro h
    ·refine AWp.seq (AWp.rg tt_ok [.own] (by kernel_rfl) all_nil ?_)
     refine AE.tn_ (AWp.ret ?_)
     obtain rfl := Option.some.inj h
     exact AE.br_ (AE.tr_ (AE.tr_ (post_ret (by kernel_rfl))))
    ·refine AWp.seq (AWp.rg tt_ok [] (by kernel_rfl) all_nil ?_)
     refine AE.tn_ (AWp.cnd h (by kernel_rfl) ?_ ?_) <;> clear h <;> intro h
     ·refine AWp.seq (AWp.rg tt_ok [.own] (by kernel_rfl) all_nil ?_)
      refine AE.tn_ (AWp.ret ?_)
      obtain rfl := Option.some.inj h
      exact AE.br_ (AE.tr_ (AE.tr_ (post_ret (by kernel_rfl))))
     ·refine AWp.skip (AE.bn_ (AE.tn_ ?_))
      refine AWp.rg tt_ok [] (by kernel_rfl) all_nil ?_
      exact AE.tn_ ⟨(IntKind.i64.wrap ((IntKind.i64.wrap (b0_.at_ + 1)) - 1)), by kernel_rfl, h⟩
  ·exact AWp.skip (AE.tn_ ⟨b0_.at_, by kernel_rfl, h⟩)
 ·clear h
  rintro st' ⟨v2, hr', h⟩
  refine AWp.drop _ _ _ hr' (by kernel_rfl) ?_
  clear hr' st'
  unfold F_c0_j1 at h
  refine AWp.seq ?_
  obtain ⟨r3, hr3, h⟩ := bind_some h
  have pr3 := c_cs0 n (⟨b0_.tokens, v2⟩ : PPz) _ hr3
  refine AWp.rg tt_ok [orn pr3 []] (by kernel_rfl) (all_cons pr3 all_nil) ?_
  refine AE.tn_ (AWp.cut (fun st' => restr [0, 1, 4, 6] [0, 1] 2 st'.env st'.H st'.nxt = some ⟨[(0, ⟨.ptr 0 0, none⟩), (1, ⟨.v (.int .i64 depth), none⟩), (4, ⟨.ptr 1 0, none⟩), (6, ⟨.v (.int .i64 r3), none⟩)], [(0, [⟨.v (encL 4 enc_Token b0_.tokens), none⟩, ⟨.v (.int .i64 v2), none⟩]), (1, [⟨.v (.int .i64 0), none⟩, ⟨.v (.int .i64 0), none⟩, ⟨.v (.str ([] : List UInt8)), none⟩, ⟨.v (encL 4 enc_Expr ([] : List Expr)), (some 26)⟩])], 2⟩ ∧ F_c0_j2 n f_a0 f_e0 f_c0 f_f0 depth r3 b0_ v2 = some r) ?_ ?_)
  ·refine AWp.seq (AWp.rg tt_ok [] (by kernel_rfl) all_nil ?_)
   refine AE.tn_ (AWp.block (AWp.seq (AWp.rg tt_ok [] (by kernel_rfl) all_nil ?_)))
   refine AE.tn_ (AWp.cnd h (by kernel_rfl) ?_ ?_) <;> clear h <;> intro h
   ·refine AWp.cut (fun st' => restr [0, 1, 4] [0, 1] 2 st'.env st'.H st'.nxt = some ⟨[(0, ⟨.ptr 0 0, none⟩), (1, ⟨.v (.int .i64 depth), none⟩), (4, ⟨.ptr 1 0, none⟩)], [(0, [⟨.v (encL 4 enc_Token b0_.tokens), none⟩, ⟨.v (.int .i64 v2), none⟩]), (1, [⟨.v (.int .i64 0), none⟩, ⟨.v (.int .i64 0), none⟩, ⟨.v (.str ([] : List UInt8)), none⟩, ⟨.v (encL 4 enc_Expr ([] : List Expr)), (some 26)⟩])], 2⟩ ∧ F_c0_j3 n f_a0 f_e0 f_c0 f_f0 depth b0_ v2 = some r) ?_ ?_
    ·refine AWp.seq ?_
     obtain ⟨r4, hr4, h⟩ := bind_some h
     have pr4 := c_be0 n ([40] : List UInt8) (⟨b0_.tokens, v2⟩ : PPz) _ hr4
     refine AWp.rg tt_ok [orn pr4 []] (by kernel_rfl) (all_cons pr4 all_nil) ?_
     refine AE.tn_ (AWp.cnd h (by kernel_rfl) ?_ ?_) <;> clear h <;> intro h
     ·obtain ⟨r5, hr5, h⟩ := bind_some h
      cases r5 with
      | ret r6 r7 =>
       have pr5 := c_w0 n 5 (⟨b0_.tokens, v2⟩ : PPz) _ hr5
       refine AWp.rg tt_ok [orn pr5 []] (by kernel_rfl) (all_cons pr5 all_nil) ?_
       exact AE.tn_ ⟨by kernel_rfl, h⟩
      | pan x8 r7 =>
       have pr5 := c_w0 n 5 (⟨b0_.tokens, v2⟩ : PPz) _ hr5
       refine AWp.rgP tt_ok [orn pr5 []] (x := x8) (by kernel_rfl) (all_cons pr5 all_nil) ?_
       obtain rfl := Option.some.inj h
       exact AE.then_pan (AE.block_pan (AE.then_pan (post_pan (by kernel_rfl))))
     ·exact AWp.skip (AE.tn_ ⟨by kernel_rfl, h⟩)
    ·clear h
     rintro st' ⟨hr', h⟩
     refine AWp.drop _ _ _ hr' (by kernel_rfl) ?_
     clear hr' st'
     unfold F_c0_j3 at h
     refine AWp.seq ?_
     obtain ⟨r9, hr9, h⟩ := bind_some h
     cases r9 with
     | ret r10 r11 =>
      have pr9 := c_ao0 n depth (⟨b0_.tokens, v2⟩ : PPz) _ hr9
      obtain ⟨r13, hr13, h⟩ := bind_some h
      cases r13 with
      | ret r14 r15 =>
       have pr13 := i_f0 r10 (⟨b0_.tokens, v2⟩ : PPz) _ hr13
       refine AWp.rg tt_ok [orn pr9 [], orc pr13 []] (by kernel_rfl) (all_cons pr13 (all_cons pr9 all_nil)) ?_
       refine AE.tn_ (AWp.ret ?_)
       obtain rfl := Option.some.inj h
       exact AE.br_ (AE.tr_ (post_ret (by kernel_rfl)))
      | pan x16 r15 =>
       have pr13 := i_f0 r10 (⟨b0_.tokens, v2⟩ : PPz) _ hr13
       refine AWp.rgP tt_ok [orn pr9 [], orc pr13 []] (x := x16) (by kernel_rfl) (all_cons pr13 (all_cons pr9 all_nil)) ?_
       obtain rfl := Option.some.inj h
       exact AE.then_pan (AE.block_pan (AE.then_pan (post_pan (by kernel_rfl))))
     | pan x12 r11 =>
      have pr9 := c_ao0 n depth (⟨b0_.tokens, v2⟩ : PPz) _ hr9
      refine AWp.rgP tt_ok [orn pr9 []] (x := x12) (by kernel_rfl) (all_cons pr9 all_nil) ?_
      obtain rfl := Option.some.inj h
      exact AE.then_pan (AE.block_pan (AE.then_pan (post_pan (by kernel_rfl))))
   ·refine AWp.cut (fun st' => ∃ (v17 : Bool), restr [0, 1, 4, 6, 73] [0, 1] 2 st'.env st'.H st'.nxt = some ⟨[(0, ⟨.ptr 0 0, none⟩), (1, ⟨.v (.int .i64 depth), none⟩), (4, ⟨.ptr 1 0, none⟩), (6, ⟨.v (.int .i64 r3), none⟩), (73, ⟨.v (.bool v17), none⟩)], [(0, [⟨.v (encL 4 enc_Token b0_.tokens), none⟩, ⟨.v (.int .i64 v2), none⟩]), (1, [⟨.v (.int .i64 0), none⟩, ⟨.v (.int .i64 0), none⟩, ⟨.v (.str ([] : List UInt8)), none⟩, ⟨.v (encL 4 enc_Expr ([] : List Expr)), (some 26)⟩])], 2⟩ ∧ F_c0_j4 n f_a0 f_e0 f_c0 f_f0 depth r3 b0_ v2 v17 = some r) ?_ ?_
    ·refine AWp.seq (AWp.rg tt_ok [] (by kernel_rfl) all_nil ?_)
     refine AE.tn_ (AWp.cnd h (by kernel_rfl) ?_ ?_) <;> clear h <;> intro h
     ·exact AWp.skip (AE.tn_ ⟨(decide (r3 = 25)), by kernel_rfl, h⟩)
     ·refine AWp.seq (AWp.rg tt_ok [] (by kernel_rfl) all_nil ?_)
      refine AE.tn_ (AWp.cnd h (by kernel_rfl) ?_ ?_) <;> clear h <;> intro h
      ·exact AWp.skip (AE.tn_ ⟨(decide (r3 = 26)), by kernel_rfl, h⟩)
      ·refine AWp.rg tt_ok [] (by kernel_rfl) all_nil ?_
       exact AE.tn_ ⟨(decide (r3 = 27)), by kernel_rfl, h⟩
    ·clear h
     rintro st' ⟨v17, hr', h⟩
     refine AWp.drop _ _ _ hr' (by kernel_rfl) ?_
     clear hr' st'
     unfold F_c0_j4 at h
     refine AWp.cnd h (by kernel_rfl) ?_ ?_ <;> clear h <;> intro h
     ·refine AWp.seq (AWp.rg tt_ok [] (by kernel_rfl) all_nil ?_)
      refine AE.tn_ (AWp.seq ?_)
      obtain ⟨r18, hr18, h⟩ := bind_some h
      cases r18 with
      | ret r19 r20 =>
       have pr18 := c_m0 n ([40] : List UInt8) (⟨b0_.tokens, (IntKind.i64.wrap (v2 + 1))⟩ : PPz) _ hr18
       refine AWp.rg tt_ok [orc pr18 []] (by kernel_rfl) (all_cons pr18 all_nil) ?_
       refine AE.tn_ (AWp.seq ?_)
       obtain ⟨r22, hr22, h⟩ := bind_some h
       cases r22 with
       | ret r23 r24 =>
        have pr22 := c_m0 n ([41] : List UInt8) (⟨b0_.tokens, r20⟩ : PPz) _ hr22
        refine AWp.rg tt_ok [orc pr22 []] (by kernel_rfl) (all_cons pr22 all_nil) ?_
        refine AE.tn_ (AWp.seq (AWp.rg tt_ok [.own] (by kernel_rfl) all_nil ?_))
        refine AE.tn_ (AWp.ret ?_)
        obtain rfl := Option.some.inj h
        exact AE.br_ (AE.tr_ (post_ret (by kernel_rfl)))
       | pan x25 r24 =>
        have pr22 := c_m0 n ([41] : List UInt8) (⟨b0_.tokens, r20⟩ : PPz) _ hr22
        refine AWp.rgP tt_ok [orc pr22 []] (x := x25) (by kernel_rfl) (all_cons pr22 all_nil) ?_
        obtain rfl := Option.some.inj h
        exact AE.then_pan (AE.block_pan (AE.then_pan (post_pan (by kernel_rfl))))
      | pan x21 r20 =>
       have pr18 := c_m0 n ([40] : List UInt8) (⟨b0_.tokens, (IntKind.i64.wrap (v2 + 1))⟩ : PPz) _ hr18
       refine AWp.rgP tt_ok [orc pr18 []] (x := x21) (by kernel_rfl) (all_cons pr18 all_nil) ?_
       obtain rfl := Option.some.inj h
       exact AE.then_pan (AE.block_pan (AE.then_pan (post_pan (by kernel_rfl))))
     ·exact AWp.skip (AE.bn_ (AE.tn_ ⟨by kernel_rfl, h⟩))
  ·clear h
   rintro st' ⟨hr', h⟩
   refine AWp.drop _ _ _ hr' (by kernel_rfl) ?_
   clear hr' st'
   unfold F_c0_j2 at h
   refine AWp.seq ?_
   obtain ⟨r26, hr26, h⟩ := bind_some h
   cases r26 with
   | ret r27 r28 =>
    have pr26 := c_ao0 n depth (⟨b0_.tokens, v2⟩ : PPz) _ hr26
    refine AWp.rg tt_ok [orn pr26 []] (by kernel_rfl) (all_cons pr26 all_nil) ?_
    refine AE.tn_ (AWp.seq (AWp.rg tt_ok [] (by kernel_rfl) all_nil ?_))
    refine AE.tn_ (AWp.seq ?_)
    obtain ⟨r30, hr30, h⟩ := bind_some h
    cases r30 with
    | ret r31 r32 =>
     have pr30 := i_f0 r27 (⟨b0_.tokens, (IntKind.i64.wrap (v2 + 1))⟩ : PPz) _ hr30
     refine AWp.rg tt_ok [orc pr30 [], .val (encL 4 enc_Expr ([r31] : List Expr))] (by kernel_rfl) (all_cons (vimp_lit2 (k := 4) (e := enc_Expr) (xs := [.agg [.int .i64 r31.Op, .int .i64 r31.N, .str r31.S, encL 4 enc_Expr r31.Args]]) (l := ([r31] : List Expr)) (AllV.cons (rev_Expr r31) (AllV.nil)) 1 rfl) (all_cons pr30 all_nil)) ?_
     refine AE.tn_ (AWp.ret ?_)
     obtain rfl := Option.some.inj h
     exact post_ret (by kernel_rfl)
    | pan x33 r32 =>
     have pr30 := i_f0 r27 (⟨b0_.tokens, (IntKind.i64.wrap (v2 + 1))⟩ : PPz) _ hr30
     refine AWp.rgP tt_ok [orc pr30 []] (x := x33) (by kernel_rfl) (all_cons pr30 all_nil) ?_
     obtain rfl := Option.some.inj h
     exact AE.then_pan (post_pan (by kernel_rfl))
   | pan x29 r28 =>
    have pr26 := c_ao0 n depth (⟨b0_.tokens, v2⟩ : PPz) _ hr26
    refine AWp.rgP tt_ok [orn pr26 []] (x := x29) (by kernel_rfl) (all_cons pr26 all_nil) ?_
    obtain rfl := Option.some.inj h
    exact AE.then_pan (post_pan (by kernel_rfl))
theorem cB_parser_parser_inside (n : Nat) (f_a0 : Int → Int → PPz → Option (Pn Expr Int)) (f_e0 : Int → Int → Int → PPz → Option (Pn Expr Int)) (f_c0 : Int → PPz → Option (Pn Expr Int)) (f_f0 : Int → PPz → Option (Pn Expr Int)) (i_a0 : ∀ (level : Int) (depth : Int) (b0_ : PPz) (r : Pn Expr Int), f_a0 level depth b0_ = some r → saysOf Tryz.prog 33 [.ptr 0 0, .v (.int .i64 level), .v (.int .i64 depth)] [] [[⟨.v (encL 4 enc_Token b0_.tokens), none⟩, ⟨.v (.int .i64 b0_.at_), none⟩]] (Pn.on r (fun za zb => .ret (.v (.agg [.int .i64 za.Op, .int .i64 za.N, .str za.S, encL 4 enc_Expr za.Args])) none) (fun zx zb => .pan zx)) (Pn.on r (fun za zb => [[⟨.v (encL 4 enc_Token b0_.tokens), none⟩, ⟨.v (.int .i64 zb), none⟩]]) (fun zx zb => [[⟨.v (encL 4 enc_Token b0_.tokens), none⟩, ⟨.v (.int .i64 zb), none⟩]]))) (i_e0 : ∀ (op : Int) (level : Int) (depth : Int) (b0_ : PPz) (r : Pn Expr Int), f_e0 op level depth b0_ = some r → saysOf Tryz.prog 75 [.ptr 0 0, .v (.int .i64 op), .v (.int .i64 level), .v (.int .i64 depth)] [] [[⟨.v (encL 4 enc_Token b0_.tokens), none⟩, ⟨.v (.int .i64 b0_.at_), none⟩]] (Pn.on r (fun za zb => .ret (.v (.agg [.int .i64 za.Op, .int .i64 za.N, .str za.S, encL 4 enc_Expr za.Args])) none) (fun zx zb => .pan zx)) (Pn.on r (fun za zb => [[⟨.v (encL 4 enc_Token b0_.tokens), none⟩, ⟨.v (.int .i64 zb), none⟩]]) (fun zx zb => [[⟨.v (encL 4 enc_Token b0_.tokens), none⟩, ⟨.v (.int .i64 zb), none⟩]]))) (i_c0 : ∀ (depth : Int) (b0_ : PPz) (r : Pn Expr Int), f_c0 depth b0_ = some r → saysOf Tryz.prog 76 [.ptr 0 0, .v (.int .i64 depth)] [] [[⟨.v (encL 4 enc_Token b0_.tokens), none⟩, ⟨.v (.int .i64 b0_.at_), none⟩]] (Pn.on r (fun za zb => .ret (.v (.agg [.int .i64 za.Op, .int .i64 za.N, .str za.S, encL 4 enc_Expr za.Args])) none) (fun zx zb => .pan zx)) (Pn.on r (fun za zb => [[⟨.v (encL 4 enc_Token b0_.tokens), none⟩, ⟨.v (.int .i64 zb), none⟩]]) (fun zx zb => [[⟨.v (encL 4 enc_Token b0_.tokens), none⟩, ⟨.v (.int .i64 zb), none⟩]]))) (i_f0 : ∀ (depth : Int) (b0_ : PPz) (r : Pn Expr Int), f_f0 depth b0_ = some r → saysOf Tryz.prog 123 [.ptr 0 0, .v (.int .i64 depth)] [] [[⟨.v (encL 4 enc_Token b0_.tokens), none⟩, ⟨.v (.int .i64 b0_.at_), none⟩]] (Pn.on r (fun za zb => .ret (.v (.agg [.int .i64 za.Op, .int .i64 za.N, .str za.S, encL 4 enc_Expr za.Args])) none) (fun zx zb => .pan zx)) (Pn.on r (fun za zb => [[⟨.v (encL 4 enc_Token b0_.tokens), none⟩, ⟨.v (.int .i64 zb), none⟩]]) (fun zx zb => [[⟨.v (encL 4 enc_Token b0_.tokens), none⟩, ⟨.v (.int .i64 zb), none⟩]]))) (depth : Int) (b0_ : PPz) (r : Pn Expr Int) (h : B_f0 n f_a0 f_e0 f_c0 f_f0 depth b0_ = some r) : saysOf Tryz.prog 123 [.ptr 0 0, .v (.int .i64 depth)] [] [[⟨.v (encL 4 enc_Token b0_.tokens), none⟩, ⟨.v (.int .i64 b0_.at_), none⟩]] (Pn.on r (fun za zb => .ret (.v (.agg [.int .i64 za.Op, .int .i64 za.N, .str za.S, encL 4 enc_Expr za.Args])) none) (fun zx zb => .pan zx)) (Pn.on r (fun za zb => [[⟨.v (encL 4 enc_Token b0_.tokens), none⟩, ⟨.v (.int .i64 zb), none⟩]]) (fun zx zb => [[⟨.v (encL 4 enc_Token b0_.tokens), none⟩, ⟨.v (.int .i64 zb), none⟩]])) := by
 refine sw_ tt_ok Tryz.func123 rfl rfl rfl ?_
 unfold B_f0 at h
 refine AWp.seq (AWp.rg tt_ok [] (by kernel_rfl) all_nil ?_)
 refine AE.tn_ (AWp.seq ?_)
 obtain ⟨r1, hr1, h⟩ := bind_some h
 cases r1 with
 | ret r2 r3 =>
  have pr1 := c_m0 n ([40] : List UInt8) b0_ _ hr1
  refine AWp.rg tt_ok [orc pr1 []] (by kernel_rfl) (all_cons pr1 all_nil) ?_
  refine AE.tn_ (AWp.seq ?_)
  obtain ⟨r5, hr5, h⟩ := bind_some h
  cases r5 with
  | ret r6 r7 =>
   have pr5 := i_a0 1 depth (⟨b0_.tokens, r3⟩ : PPz) _ hr5
   refine AWp.rg tt_ok [orc pr5 []] (by kernel_rfl) (all_cons pr5 all_nil) ?_
   refine AE.tn_ (AWp.seq ?_)
   obtain ⟨r9, hr9, h⟩ := bind_some h
   cases r9 with
   | ret r10 r11 =>
    have pr9 := c_m0 n ([41] : List UInt8) (⟨b0_.tokens, r7⟩ : PPz) _ hr9
    refine AWp.rg tt_ok [orc pr9 []] (by kernel_rfl) (all_cons pr9 all_nil) ?_
    refine AE.tn_ (AWp.seq (AWp.rg tt_ok [] (by kernel_rfl) all_nil ?_))
    refine AE.tn_ (AWp.ret ?_)
    obtain rfl := Option.some.inj h
    exact post_ret (by kernel_rfl)
   | pan x12 r11 =>
    have pr9 := c_m0 n ([41] : List UInt8) (⟨b0_.tokens, r7⟩ : PPz) _ hr9
    refine AWp.rgP tt_ok [orc pr9 []] (x := x12) (by kernel_rfl) (all_cons pr9 all_nil) ?_
    obtain rfl := Option.some.inj h
    exact AE.then_pan (post_pan (by kernel_rfl))
  | pan x8 r7 =>
   have pr5 := i_a0 1 depth (⟨b0_.tokens, r3⟩ : PPz) _ hr5
   refine AWp.rgP tt_ok [orc pr5 []] (x := x8) (by kernel_rfl) (all_cons pr5 all_nil) ?_
   obtain rfl := Option.some.inj h
   exact AE.then_pan (post_pan (by kernel_rfl))
 | pan x4 r3 =>
  have pr1 := c_m0 n ([40] : List UInt8) b0_ _ hr1
  refine AWp.rgP tt_ok [orc pr1 []] (x := x4) (by kernel_rfl) (all_cons pr1 all_nil) ?_
  obtain rfl := Option.some.inj h
  exact AE.then_pan (post_pan (by kernel_rfl))
theorem cS_a0 (n : Nat) : (∀ (level : Int) (depth : Int) (b0_ : PPz) (r : Pn Expr Int), F_a0 n level depth b0_ = some r → saysOf Tryz.prog 33 [.ptr 0 0, .v (.int .i64 level), .v (.int .i64 depth)] [] [[⟨.v (encL 4 enc_Token b0_.tokens), none⟩, ⟨.v (.int .i64 b0_.at_), none⟩]] (Pn.on r (fun za zb => .ret (.v (.agg [.int .i64 za.Op, .int .i64 za.N, .str za.S, encL 4 enc_Expr za.Args])) none) (fun zx zb => .pan zx)) (Pn.on r (fun za zb => [[⟨.v (encL 4 enc_Token b0_.tokens), none⟩, ⟨.v (.int .i64 zb), none⟩]]) (fun zx zb => [[⟨.v (encL 4 enc_Token b0_.tokens), none⟩, ⟨.v (.int .i64 zb), none⟩]]))) ∧ (∀ (op : Int) (level : Int) (depth : Int) (b0_ : PPz) (r : Pn Expr Int), F_e0 n op level depth b0_ = some r → saysOf Tryz.prog 75 [.ptr 0 0, .v (.int .i64 op), .v (.int .i64 level), .v (.int .i64 depth)] [] [[⟨.v (encL 4 enc_Token b0_.tokens), none⟩, ⟨.v (.int .i64 b0_.at_), none⟩]] (Pn.on r (fun za zb => .ret (.v (.agg [.int .i64 za.Op, .int .i64 za.N, .str za.S, encL 4 enc_Expr za.Args])) none) (fun zx zb => .pan zx)) (Pn.on r (fun za zb => [[⟨.v (encL 4 enc_Token b0_.tokens), none⟩, ⟨.v (.int .i64 zb), none⟩]]) (fun zx zb => [[⟨.v (encL 4 enc_Token b0_.tokens), none⟩, ⟨.v (.int .i64 zb), none⟩]]))) ∧ (∀ (depth : Int) (b0_ : PPz) (r : Pn Expr Int), F_c0 n depth b0_ = some r → saysOf Tryz.prog 76 [.ptr 0 0, .v (.int .i64 depth)] [] [[⟨.v (encL 4 enc_Token b0_.tokens), none⟩, ⟨.v (.int .i64 b0_.at_), none⟩]] (Pn.on r (fun za zb => .ret (.v (.agg [.int .i64 za.Op, .int .i64 za.N, .str za.S, encL 4 enc_Expr za.Args])) none) (fun zx zb => .pan zx)) (Pn.on r (fun za zb => [[⟨.v (encL 4 enc_Token b0_.tokens), none⟩, ⟨.v (.int .i64 zb), none⟩]]) (fun zx zb => [[⟨.v (encL 4 enc_Token b0_.tokens), none⟩, ⟨.v (.int .i64 zb), none⟩]]))) ∧ (∀ (depth : Int) (b0_ : PPz) (r : Pn Expr Int), F_f0 n depth b0_ = some r → saysOf Tryz.prog 123 [.ptr 0 0, .v (.int .i64 depth)] [] [[⟨.v (encL 4 enc_Token b0_.tokens), none⟩, ⟨.v (.int .i64 b0_.at_), none⟩]] (Pn.on r (fun za zb => .ret (.v (.agg [.int .i64 za.Op, .int .i64 za.N, .str za.S, encL 4 enc_Expr za.Args])) none) (fun zx zb => .pan zx)) (Pn.on r (fun za zb => [[⟨.v (encL 4 enc_Token b0_.tokens), none⟩, ⟨.v (.int .i64 zb), none⟩]]) (fun zx zb => [[⟨.v (encL 4 enc_Token b0_.tokens), none⟩, ⟨.v (.int .i64 zb), none⟩]]))) := by
 induction n with
 | zero => exact ⟨fun level depth b0_ r h => (by have h2 : (none : Option _) = some r := h; cases h2), fun op level depth b0_ r h => (by have h2 : (none : Option _) = some r := h; cases h2), fun depth b0_ r h => (by have h2 : (none : Option _) = some r := h; cases h2), fun depth b0_ r h => (by have h2 : (none : Option _) = some r := h; cases h2)⟩
 | succ m ih => exact ⟨fun level depth b0_ r h => cB_parser_parser_expr m (F_a0 m) (F_e0 m) (F_c0 m) (F_f0 m) ih.1 ih.2.1 ih.2.2.1 ih.2.2.2 level depth b0_ r h, fun op level depth b0_ r h => cB_parser_parser_prefix m (F_a0 m) (F_e0 m) (F_c0 m) (F_f0 m) ih.1 ih.2.1 ih.2.2.1 ih.2.2.2 op level depth b0_ r h, fun depth b0_ r h => cB_parser_parser_unit m (F_a0 m) (F_e0 m) (F_c0 m) (F_f0 m) ih.1 ih.2.1 ih.2.2.1 ih.2.2.2 depth b0_ r h, fun depth b0_ r h => cB_parser_parser_inside m (F_a0 m) (F_e0 m) (F_c0 m) (F_f0 m) ih.1 ih.2.1 ih.2.2.1 ih.2.2.2 depth b0_ r h⟩
theorem c_a0 (n : Nat) (level : Int) (depth : Int) (b0_ : PPz) (r : Pn Expr Int) (h : F_a0 n level depth b0_ = some r) : saysOf Tryz.prog 33 [.ptr 0 0, .v (.int .i64 level), .v (.int .i64 depth)] [] [[⟨.v (encL 4 enc_Token b0_.tokens), none⟩, ⟨.v (.int .i64 b0_.at_), none⟩]] (Pn.on r (fun za zb => .ret (.v (.agg [.int .i64 za.Op, .int .i64 za.N, .str za.S, encL 4 enc_Expr za.Args])) none) (fun zx zb => .pan zx)) (Pn.on r (fun za zb => [[⟨.v (encL 4 enc_Token b0_.tokens), none⟩, ⟨.v (.int .i64 zb), none⟩]]) (fun zx zb => [[⟨.v (encL 4 enc_Token b0_.tokens), none⟩, ⟨.v (.int .i64 zb), none⟩]])) := (cS_a0 n).1 level depth b0_ r h
theorem c_dt0 (n : Nat) (b0_ : PPz) (b1_ : Expr) (r : Pn Unit (Int × Int × Int × (List UInt8) × (List Expr))) (h : F_dt0 n b0_ b1_ = some r) : saysOf Tryz.prog 32 [.ptr 0 0, .ptr 1 0] [] [[⟨.v (encL 4 enc_Token b0_.tokens), none⟩, ⟨.v (.int .i64 b0_.at_), none⟩], [⟨.v (.int .i64 b1_.Op), none⟩, ⟨.v (.int .i64 b1_.N), none⟩, ⟨.v (.str b1_.S), none⟩, ⟨.v (encL 4 enc_Expr b1_.Args), (some 26)⟩]] (Pn.on r (fun za zb => .ret (.tup []) none) (fun zx zb => .pan zx)) (Pn.on r (fun za zb => [[⟨.v (encL 4 enc_Token b0_.tokens), none⟩, ⟨.v (.int .i64 zb.1), none⟩], [⟨.v (.int .i64 zb.2.1), none⟩, ⟨.v (.int .i64 zb.2.2.1), none⟩, ⟨.v (.str zb.2.2.2.1), none⟩, ⟨.v (encL 4 enc_Expr zb.2.2.2.2), none⟩]]) (fun zx zb => [[⟨.v (encL 4 enc_Token b0_.tokens), none⟩, ⟨.v (.int .i64 zb.1), none⟩], [⟨.v (.int .i64 zb.2.1), none⟩, ⟨.v (.int .i64 zb.2.2.1), none⟩, ⟨.v (.str zb.2.2.2.1), none⟩, ⟨.v (encL 4 enc_Expr zb.2.2.2.2), none⟩]])) := by
 refine sw_ tt_ok Tryz.func32 rfl rfl rfl ?_
 unfold F_dt0 at h
 obtain ⟨r1, hr1, h⟩ := bind_some h
 cases r1 with
 | ret r2 r3 =>
  have pr1 := c_a0 n 1 0 b0_ _ hr1
  refine AWp.rg tt_ok [orc pr1 []] (by kernel_rfl) (all_cons pr1 all_nil) ?_
  obtain rfl := Option.some.inj h
  exact post_normal (by kernel_rfl)
 | pan x4 r3 =>
  have pr1 := c_a0 n 1 0 b0_ _ hr1
  refine AWp.rgP tt_ok [orc pr1 []] (x := x4) (by kernel_rfl) (all_cons pr1 all_nil) ?_
  obtain rfl := Option.some.inj h
  exact post_pan (by kernel_rfl)
theorem d0_cw0 (a b : Int) : DCalls Tryz.prog 72 [.ptr 0 0, .ptr 1 0] [[⟨.v (.int .i64 a), none⟩], [⟨.v (.int .i64 b), none⟩]] none (fun H' => H' = [[⟨.v (.int .i64 a), none⟩], [⟨.v (.int .i64 b), none⟩]]) := by
 refine DCalls.of_recover tt_ok Tryz.func72 rfl rfl rfl rfl rfl rfl rfl rfl rfl rfl (by kernel_rfl) (by kernel_rfl) (by kernel_rfl) ?_
 refine AWp.seq (AWp.rg tt_ok [] (by kernel_rfl) all_nil ?_)
 refine AE.tn_ (AWp.cndF (by kernel_rfl) ?_)
 exact AWp.skip (post_normal (by kernel_rfl))
theorem d1_cw0 (a b l c : Int) : DCalls Tryz.prog 72 [.ptr 0 0, .ptr 1 0] [[⟨.v (.int .i64 a), none⟩], [⟨.v (.int .i64 b), none⟩]] (some (.iface 114 (.agg [.int .i64 l, .int .i64 c]))) (fun H' => H' = [[⟨.v (.int .i64 l), none⟩], [⟨.v (.int .i64 c), none⟩]]) := by
 refine DCalls.of_recover tt_ok Tryz.func72 rfl rfl rfl rfl rfl rfl rfl rfl rfl rfl (by kernel_rfl) (by kernel_rfl) (by kernel_rfl) ?_
 refine AWp.seq (AWp.rg tt_ok [] (by kernel_rfl) all_nil ?_)
 refine AE.tn_ (AWp.cndT (by kernel_rfl) ?_)
 refine AWp.seq (AWp.rg tt_ok [] (by kernel_rfl) all_nil ?_)
 refine AE.tn_ (AWp.seq (AWp.seq (AWp.rg tt_ok [] (by kernel_rfl) all_nil ?_)))
 refine AE.tn_ (AWp.cndF (by kernel_rfl) ?_)
 refine AWp.skip (AE.tn_ (AWp.rgD tt_ok mo_ok [] (by kernel_rfl) all_nil ?_))
 exact post_normal (by kernel_rfl)
theorem c_cw0 (n : Nat) (src : List UInt8) (b0_ : Expr) (r : Int × Int × Int × Int × (List UInt8) × (List Expr)) (h : F_cw0 n src b0_ = some r) : saysOf Tryz.prog 31 [.v (.str src), .fn 32 [.ptr 0 0]] [] [[⟨.v (.int .i64 b0_.Op), none⟩, ⟨.v (.int .i64 b0_.N), none⟩, ⟨.v (.str b0_.S), none⟩, ⟨.v (encL 4 enc_Expr b0_.Args), (some 26)⟩]] (.ret (.tup [.v (.int .i64 r.1), .v (.int .i64 r.2.1)]) none) [[⟨.v (.int .i64 r.2.2.1), none⟩, ⟨.v (.int .i64 r.2.2.2.1), none⟩, ⟨.v (.str r.2.2.2.2.1), none⟩, ⟨.v (encL 4 enc_Expr r.2.2.2.2.2), none⟩]] := by
 refine ACalls.of_dwp (tt := tt) Tryz.func31 rfl rfl rfl ?_
 unfold F_cw0 at h
 refine DWp.seq tt_ok ?_
 refine AWp.rg tt_ok [] (by kernel_rfl) all_nil ?_
 refine DPost_normal (DWp.seq tt_ok ?_)
 obtain ⟨r1, hr1, h⟩ := bind_some h
 have p1 := c_k0 n src _ hr1
 refine AWp.rg tt_ok [orn p1 []] (by kernel_rfl) (all_cons p1 all_nil) ?_
 refine DPost_normal (DWp.seq tt_ok ?_)
 refine AWp.seq (AWp.rg tt_ok [] (by kernel_rfl) all_nil ?_)
 refine AE.tn_ (AWp.cnd h (by kernel_rfl) ?_ ?_) <;> clear h <;> intro h
 ·refine AWp.seq (AWp.rgD tt_ok mo_ok [] (by kernel_rfl) all_nil ?_)
  refine AE.tn_ (AWp.ret ?_)
  obtain rfl := Option.some.inj h
  exact DPost_ret (by kernel_rfl)
 ·refine AWp.skip (DPost_normal ?_)
  refine DWp.defer tt_ok rfl rfl rfl rfl rfl rfl rfl rfl rfl (by kernel_rfl) (ds := [.ptr 1 0, .ptr 2 0]) (by kernel_rfl) (by kernel_rfl) Tryz.func72 rfl rfl (by kernel_rfl) ?_
  refine AWp.seq (AWp.rg tt_ok [] (by kernel_rfl) all_nil ?_)
  refine AE.tn_ (AWp.seq ?_)
  obtain ⟨r2, hr2, h⟩ := bind_some h
  have p2 := c_dt0 n (⟨r1.1, 0⟩ : PPz) b0_ _ hr2
  cases r2 with
  | ret za zm =>
   refine AWp.rg tt_ok [orc p2 []] (by kernel_rfl) (all_cons p2 all_nil) ?_
   refine AE.tn_ (AWp.seq (AWp.seq (AWp.rgD tt_ok mo_ok [] (by kernel_rfl) all_nil ?_)))
   refine AE.tn_ (AWp.cnd h (by kernel_rfl) ?_ ?_) <;> clear h <;> intro h
   ·obtain ⟨r3, hr3, h⟩ := bind_some h
    have p3 := c_w0 n 5 (⟨r1.1, zm.1⟩ : PPz) _ hr3
    cases r3 with
    | ret zb zc =>
     have h2 : (none : Option _) = some r := h
     cases h2
    | pan zx zc =>
     obtain ⟨lc, hlc, h⟩ := bind_some h
     obtain rfl := Option.some.inj h
     obtain rfl := asFail_some hlc
     refine AWp.rgP tt_ok [orn p3 []] (x := .iface 114 (.agg [.int .i64 lc.1, .int .i64 lc.2])) (by kernel_rfl) (all_cons p3 all_nil) ?_
     exact AE.then_pan (LPost_pan (Fin1.of [1, 2] (d1_cw0 r1.2.1 r1.2.2 lc.1 lc.2) (by kernel_rfl)))
   ·refine AWp.skip ?_
    obtain rfl := Option.some.inj h
    refine AE.tn_ (AWp.seq (AWp.rg tt_ok [] (by kernel_rfl) all_nil ?_))
    exact AE.tn_ (AWp.ret (LPost_ret (Fin1.of [1, 2] (d0_cw0 0 0) (by kernel_rfl))))
  | pan zx zm =>
   obtain ⟨lc, hlc, h⟩ := bind_some h
   obtain rfl := Option.some.inj h
   obtain rfl := asFail_some hlc
   refine AWp.rgP tt_ok [orc p2 []] (x := .iface 114 (.agg [.int .i64 lc.1, .int .i64 lc.2])) (by kernel_rfl) (all_cons p2 all_nil) ?_
   exact AE.then_pan (LPost_pan (Fin1.of [1, 2] (d1_cw0 r1.2.1 r1.2.2 lc.1 lc.2) (by kernel_rfl)))
theorem c_cc0 (n : Nat) (src : List UInt8) (r : Expr × Int × Int) (h : F_cc0 n src = some r) : saysOf Tryz.prog 12 [.v (.str src)] [] [] (.ret (.tup [.v (.agg [.int .i64 r.1.Op, .int .i64 r.1.N, .str r.1.S, encL 4 enc_Expr r.1.Args]), .v (.int .i64 r.2.1), .v (.int .i64 r.2.2)]) none) [] := by
 refine sw_ tt_ok Tryz.func12 rfl rfl rfl ?_
 unfold F_cc0 at h
 refine AWp.seq (AWp.rg tt_ok [] (by kernel_rfl) all_nil ?_)
 refine AE.tn_ (AWp.seq (AWp.rg tt_ok [] (by kernel_rfl) all_nil ?_))
 refine AE.tn_ (AWp.seq ?_)
 obtain ⟨r1, hr1, h⟩ := bind_some h
 have pr1 := c_cw0 n src (⟨0, 0, ([] : List UInt8), ([] : List Expr)⟩ : Expr) _ hr1
 refine AWp.rg tt_ok [orc pr1 []] (by kernel_rfl) (all_cons pr1 all_nil) ?_
 refine AE.tn_ (AWp.cut (fun st' => ∃ (v3 : Int), restr [2, 5, 6, 7] [0, 1] 2 st'.env st'.H st'.nxt = some ⟨[(2, ⟨.ptr 0 0, none⟩), (5, ⟨.ptr 1 0, none⟩), (6, ⟨.v (.int .i64 r1.1), none⟩), (7, ⟨.v (.int .i64 v3), none⟩)], [(0, [⟨.v (.int .i64 0), none⟩, ⟨.v (.int .i64 0), none⟩, ⟨.v (.str ([] : List UInt8)), none⟩, ⟨.v (encL 4 enc_Expr ([] : List Expr)), (some 26)⟩]), (1, [⟨.v (.int .i64 r1.2.2.1), none⟩, ⟨.v (.int .i64 r1.2.2.2.1), none⟩, ⟨.v (.str r1.2.2.2.2.1), none⟩, ⟨.v (encL 4 enc_Expr r1.2.2.2.2.2), none⟩])], 2⟩ ∧ F_cc0_j1 n r1 v3 = some r) ?_ ?_)
 ·refine AWp.seq (AWp.rg tt_ok [] (by kernel_rfl) all_nil ?_)
  refine AE.tn_ (AWp.cnd h (by kernel_rfl) ?_ ?_) <;> clear h <;> intro h
  ·obtain ⟨r2, hr2, h⟩ := bind_some h
   have pr2 := c_ci0 n (⟨r1.2.2.1, r1.2.2.2.1, r1.2.2.2.2.1, r1.2.2.2.2.2⟩ : Expr) _ hr2
   refine AWp.rg tt_ok [orn pr2 []] (by kernel_rfl) (all_cons pr2 all_nil) ?_
   exact AE.tn_ ⟨r2, by kernel_rfl, h⟩
  ·exact AWp.skip (AE.tn_ ⟨r1.2.1, by kernel_rfl, h⟩)
 ·clear h
  rintro st' ⟨v3, hr', h⟩
  refine AWp.drop _ _ _ hr' (by kernel_rfl) ?_
  clear hr' st'
  unfold F_cc0_j1 at h
  refine AWp.seq (AWp.seq (AWp.rg tt_ok [] (by kernel_rfl) all_nil ?_))
  refine AE.tn_ (AWp.cnd h (by kernel_rfl) ?_ ?_) <;> clear h <;> intro h
  ·refine AWp.seq (AWp.rg tt_ok [.own] (by kernel_rfl) all_nil ?_)
   refine AE.tn_ (AWp.ret ?_)
   obtain rfl := Option.some.inj h
   exact AE.tr_ (post_ret (by kernel_rfl))
  ·refine AWp.skip (AE.tn_ (AWp.seq (AWp.rg tt_ok [] (by kernel_rfl) all_nil ?_)))
   refine AE.tn_ (AWp.ret ?_)
   obtain rfl := Option.some.inj h
   exact post_ret (by kernel_rfl)
theorem c_dr0 (n : Nat) (y : Param) (b0_ : Param) (r : Bool) (h : F_dr0 n y b0_ = some r) : saysOf Tryz.prog 107 [.v (.agg [.str y.Name, .int .i64 y.Type_]), .ptr 0 0] [] [[⟨.v (.str b0_.Name), none⟩, ⟨.v (.int .i64 b0_.Type_), none⟩]] (.ret (.v (.bool r)) none) [[⟨.v (.str b0_.Name), none⟩, ⟨.v (.int .i64 b0_.Type_), none⟩]] := by
 refine sw_ tt_ok Tryz.func107 rfl rfl rfl ?_
 unfold F_dr0 at h
 refine AWp.seq (AWp.rg tt_ok [] (by kernel_rfl) all_nil ?_)
 refine AE.tn_ (AWp.seq (AWp.rg tt_ok [] (by kernel_rfl) all_nil ?_))
 refine AE.tn_ (AWp.ret ?_)
 obtain rfl := Option.some.inj h
 exact post_ret (by kernel_rfl)
theorem c_ad0 (n : Nat) (s : List Param) (b0_ : Param) (r : Int) (h : F_ad0 n s b0_ = some r) : saysOf Tryz.prog 143 [.v (encL 2 enc_Param s), .fn 107 [.ptr 0 0]] [] [[⟨.v (.str b0_.Name), none⟩, ⟨.v (.int .i64 b0_.Type_), none⟩]] (.ret (.v (.int .i64 r)) none) [[⟨.v (.str b0_.Name), none⟩, ⟨.v (.int .i64 b0_.Type_), none⟩]] := by
 refine sw_ tt_ok Tryz.func143 rfl rfl rfl ?_
 unfold F_ad0 at h
 refine AWp.seq (AWp.rg tt_ok [] (by kernel_rfl) all_nil ?_)
 refine AE.tn_ (AWp.cut (fun st' => restr [] [0] 1 st'.env st'.H st'.nxt = some ⟨[], [(0, [⟨.v (.str b0_.Name), none⟩, ⟨.v (.int .i64 b0_.Type_), none⟩])], 1⟩ ∧ F_ad0_j1 n b0_ = some r) ?_ ?_)
 ·refine AWp.seq (AWp.rg tt_ok [] (by kernel_rfl) all_nil ?_)
  refine AE.tn_ (AWp.block (AWp.loop (σ := Int) (fun zm zs zst => restr [0, 1, 7, 8] [0] 1 zst.env zst.H zst.nxt = some ⟨[(0, ⟨.v (encL 2 enc_Param s), none⟩), (1, ⟨.fn 107 [.ptr 0 0], none⟩), (7, ⟨.v (.int .i64 ((s.length : Nat) : Int)), none⟩), (8, ⟨.v (.int .i64 zs), none⟩)], [(0, [⟨.v (.str b0_.Name), none⟩, ⟨.v (.int .i64 b0_.Type_), none⟩])], 1⟩ ∧ F_ad0_l2 n s b0_ zm zs = some r) ?_ (n := n) (s := 0) ⟨by kernel_rfl, h⟩))
  clear h
  rintro m2 v4 st' ⟨hr', h⟩
  cases m2 with
  | zero =>
   have h2 : (none : Option _) = some r := h
   cases h2
  | succ m2 =>
   refine ⟨m2, rfl, AWp.drop _ _ _ hr' (by kernel_rfl) ?_⟩
   clear hr' st'
   replace h : F_ad0_b2 n s b0_ (F_ad0_l2 n s b0_ m2) v4 = some r := h
   unfold F_ad0_b2 at h
   refine AWp.seq (AWp.rg tt_ok [] (by kernel_rfl) all_nil ?_)
   refine AE.tn_ (AWp.seq (AWp.cnd h (by kernel_rfl) ?_ ?_)) <;> clear h <;> intro h
   ·refine AWp.skip (AE.tn_ (AWp.seq (AWp.block (AWp.seq (AWp.rg tt_ok [] (by kernel_rfl) all_nil ?_)))))
    refine AE.tn_ (AWp.seq ?_)
    obtain ⟨g5, h⟩ := ass_some h
    obtain ⟨r6, hr6, h⟩ := bind_some h
    have pr6 := c_dr0 n (s.getD (v4).toNat default) b0_ _ hr6
    refine AWp.rg tt_ok [.raw, orn pr6 []] (by kernel_rfl) (all_cons pr6 (all_cons g5 all_nil)) ?_
    refine AE.tn_ (AWp.cnd h (by kernel_rfl) ?_ ?_) <;> clear h <;> intro h
    ·refine AWp.seq (AWp.rg tt_ok [] (by kernel_rfl) all_nil ?_)
     refine AE.tn_ (AWp.ret ?_)
     obtain rfl := Option.some.inj h
     exact AE.br_ (AE.tr_ (AE.tr_ (AE.br_ (AE.tr_ (post_ret (by kernel_rfl))))))
    ·refine AWp.skip (AE.bn_ (AE.tn_ ?_))
     refine AWp.rg tt_ok [] (by kernel_rfl) all_nil ?_
     exact AE.tn_ ⟨(IntKind.i64.wrap (v4 + 1)), by kernel_rfl, h⟩
   ·refine AWp.exit ?_
    exact AE.tx_ (AE.tx_ (AE.block_hit (AE.tn_ ⟨by kernel_rfl, h⟩)))
 ·clear h
  rintro st' ⟨hr', h⟩
  refine AWp.drop _ _ _ hr' (by kernel_rfl) ?_
  clear hr' st'
  unfold F_ad0_j1 at h
  refine AWp.seq (AWp.rg tt_ok [] (by kernel_rfl) all_nil ?_)
  refine AE.tn_ (AWp.ret ?_)
  obtain rfl := Option.some.inj h
  exact post_ret (by kernel_rfl)
theorem c_bt0 (n : Nat) (s : List Param) (b0_ : Param) (r : Bool) (h : F_bt0 n s b0_ = some r) : saysOf Tryz.prog 106 [.v (encL 2 enc_Param s), .fn 107 [.ptr 0 0]] [] [[⟨.v (.str b0_.Name), none⟩, ⟨.v (.int .i64 b0_.Type_), none⟩]] (.ret (.v (.bool r)) none) [[⟨.v (.str b0_.Name), none⟩, ⟨.v (.int .i64 b0_.Type_), none⟩]] := by
 refine sw_ tt_ok Tryz.func106 rfl rfl rfl ?_
 unfold F_bt0 at h
 refine AWp.seq (AWp.rg tt_ok [] (by kernel_rfl) all_nil ?_)
 refine AE.tn_ (AWp.seq ?_)
 obtain ⟨r1, hr1, h⟩ := bind_some h
 have pr1 := c_ad0 n s b0_ _ hr1
 refine AWp.rg tt_ok [orn pr1 []] (by kernel_rfl) (all_cons pr1 all_nil) ?_
 refine AE.tn_ (AWp.ret ?_)
 obtain rfl := Option.some.inj h
 exact post_ret (by kernel_rfl)
theorem c_bc0 (n : Nat) (l : List Param) (r : Int) (h : F_bc0 n l = some r) : saysOf Tryz.prog 51 [.v (encL 2 enc_Param l)] [] [] (.ret (.v (.int .i64 r)) none) [] := by
 refine sw_ tt_ok Tryz.func51 rfl rfl rfl ?_
 unfold F_bc0 at h
 refine AWp.seq (AWp.rg tt_ok [] (by kernel_rfl) all_nil ?_)
 refine AE.tn_ (AWp.seq (AWp.seq (AWp.rg tt_ok [] (by kernel_rfl) all_nil ?_)))
 refine AE.tn_ (AWp.cnd h (by kernel_rfl) ?_ ?_) <;> clear h <;> intro h
 ·refine AWp.seq (AWp.rg tt_ok [] (by kernel_rfl) all_nil ?_)
  refine AE.tn_ (AWp.ret ?_)
  obtain rfl := Option.some.inj h
  exact AE.tr_ (post_ret (by kernel_rfl))
 ·refine AWp.skip (AE.tn_ (AWp.cut (fun st' => restr [] [] 0 st'.env st'.H st'.nxt = some ⟨[], [], 0⟩ ∧ F_bc0_j1 n = some r) ?_ ?_))
  ·refine AWp.seq (AWp.rg tt_ok [] (by kernel_rfl) all_nil ?_)
   refine AE.tn_ (AWp.block (AWp.loop (σ := Int) (fun zm zs zst => restr [0, 8, 9, 10] [] 0 zst.env zst.H zst.nxt = some ⟨[(0, ⟨.v (encL 2 enc_Param l), none⟩), (8, ⟨.v (encL 2 enc_Param l), none⟩), (9, ⟨.v (.int .i64 ((l.length : Nat) : Int)), none⟩), (10, ⟨.v (.int .i64 zs), none⟩)], [], 0⟩ ∧ F_bc0_l2 n l zm zs = some r) ?_ (n := n) (s := 0) ⟨by kernel_rfl, h⟩))
   clear h
   rintro m2 v7 st' ⟨hr', h⟩
   cases m2 with
   | zero =>
    have h2 : (none : Option _) = some r := h
    cases h2
   | succ m2 =>
    refine ⟨m2, rfl, AWp.drop _ _ _ hr' (by kernel_rfl) ?_⟩
    clear hr' st'
    replace h : F_bc0_b2 n l (F_bc0_l2 n l m2) v7 = some r := h
    unfold F_bc0_b2 at h
    refine AWp.seq (AWp.rg tt_ok [] (by kernel_rfl) all_nil ?_)
    refine AE.tn_ (AWp.seq (AWp.cnd h (by kernel_rfl) ?_ ?_)) <;> clear h <;> intro h
    ·refine AWp.skip (AE.tn_ (AWp.seq (AWp.block (AWp.seq ?_))))
     obtain ⟨g8, h⟩ := ass_some h
     refine AWp.rg tt_ok [.raw] (by kernel_rfl) (all_cons g8 all_nil) ?_
     refine AE.tn_ (AWp.block (AWp.seq ?_))
     obtain ⟨r9, hr9, h⟩ := bind_some h
     have pr9 := c_bu0 n ((l.getD (v7).toNat default).Name) _ hr9
     refine AWp.rg tt_ok [orn pr9 []] (by kernel_rfl) (all_cons pr9 all_nil) ?_
     refine AE.tn_ (AWp.cnd h (by kernel_rfl) ?_ ?_) <;> clear h <;> intro h
     ·refine AWp.seq (AWp.rg tt_ok [] (by kernel_rfl) all_nil ?_)
      refine AE.tn_ (AWp.ret ?_)
      obtain rfl := Option.some.inj h
      exact AE.br_ (AE.br_ (AE.tr_ (AE.tr_ (AE.br_ (AE.tr_ (post_ret (by kernel_rfl)))))))
     ·refine AWp.seq (AWp.rg tt_ok [] (by kernel_rfl) all_nil ?_)
      refine AE.tn_ (AWp.cnd h (by kernel_rfl) ?_ ?_) <;> clear h <;> intro h
      ·refine AWp.seq (AWp.rg tt_ok [] (by kernel_rfl) all_nil ?_)
       refine AE.tn_ (AWp.ret ?_)
       obtain rfl := Option.some.inj h
       exact AE.br_ (AE.br_ (AE.tr_ (AE.tr_ (AE.br_ (AE.tr_ (post_ret (by kernel_rfl)))))))
      ·refine AWp.seq ?_
       obtain ⟨g10, h⟩ := ass_some h
       obtain ⟨r11, hr11, h⟩ := bind_some h
       have pr11 := c_bt0 n (l.take (v7).toNat) (l.getD (v7).toNat default) _ hr11
       refine AWp.rg tt_ok [.val (encL 2 enc_Param (l.take (v7).toNat)), orn pr11 []] (by kernel_rfl) (all_cons pr11 (all_cons (vimp_take (k := 2) (e := enc_Param) l v7 (upB_spec g10)) (all_cons g10 all_nil))) ?_
       refine AE.tn_ (AWp.cnd h (by kernel_rfl) ?_ ?_) <;> clear h <;> intro h
       ·refine AWp.seq (AWp.rg tt_ok [] (by kernel_rfl) all_nil ?_)
        refine AE.tn_ (AWp.ret ?_)
        obtain rfl := Option.some.inj h
        exact AE.br_ (AE.br_ (AE.tr_ (AE.tr_ (AE.br_ (AE.tr_ (post_ret (by kernel_rfl)))))))
       ·refine AWp.skip (AE.bn_ (AE.bn_ (AE.tn_ ?_)))
        refine AWp.rg tt_ok [] (by kernel_rfl) all_nil ?_
        exact AE.tn_ ⟨(IntKind.i64.wrap (v7 + 1)), by kernel_rfl, h⟩
    ·refine AWp.exit ?_
     exact AE.tx_ (AE.tx_ (AE.block_hit (AE.tn_ ⟨by kernel_rfl, h⟩)))
  ·clear h
   rintro st' ⟨hr', h⟩
   refine AWp.drop _ _ _ hr' (by kernel_rfl) ?_
   clear hr' st'
   unfold F_bc0_j1 at h
   refine AWp.seq (AWp.rg tt_ok [] (by kernel_rfl) all_nil ?_)
   refine AE.tn_ (AWp.ret ?_)
   obtain rfl := Option.some.inj h
   exact post_ret (by kernel_rfl)
theorem c_dc0 (n : Nat) (e : Expr) (r : Bool) (h : F_dc0 n e = some r) : saysOf Tryz.prog 145 [.v (.agg [.int .i64 e.Op, .int .i64 e.N, .str e.S, encL 4 enc_Expr e.Args])] [] [] (.ret (.v (.bool r)) none) [] := by
 refine sw_ tt_ok Tryz.func145 rfl rfl rfl ?_
 unfold F_dc0 at h
 refine AWp.seq (AWp.rg tt_ok [] (by kernel_rfl) all_nil ?_)
 refine AE.tn_ (AWp.seq (AWp.rg tt_ok [] (by kernel_rfl) all_nil ?_))
 refine AE.tn_ (AWp.ret ?_)
 obtain rfl := Option.some.inj h
 exact post_ret (by kernel_rfl)
theorem c_dy0 (n : Nat) (s : Stmt) (u : ast_uses) (r : Bool) (h : F_dy0 n s u = some r) : saysOf Tryz.prog 110 [.v (.agg [.int .i64 s.Op, .str s.Name, .int .i64 s.Max, .int .i64 s.A.Op, .int .i64 s.A.N, .str s.A.S, encL 4 enc_Expr s.A.Args, .int .i64 s.B.Op, .int .i64 s.B.N, .str s.B.S, encL 4 enc_Expr s.B.Args, encL 13 enc_Stmt s.Body, encL 13 enc_Stmt s.Else]), .v (.agg [.bool u.name, .bool u.a, .bool u.b, .bool u.max, .bool u.body, .bool u.other])] [] [] (.ret (.v (.bool r)) none) [] := by
 refine sw_ tt_ok Tryz.func110 rfl rfl rfl ?_
 unfold F_dy0 at h
 refine AWp.seq (AWp.rg tt_ok [] (by kernel_rfl) all_nil ?_)
 refine AE.tn_ (AWp.seq (AWp.seq ?_))
 obtain ⟨r1, hr1, h⟩ := bind_some h
 have pr1 := fun c1 c2 => c_dc0 n (⟨s.A.Op, s.A.N, s.A.S, s.A.Args⟩ : Expr) _ (cond_t (and_t (not_t c1) c2) hr1)
 obtain ⟨r2, hr2, h⟩ := bind_some h
 have pr2 := fun c1 c2 => c_dc0 n (⟨s.B.Op, s.B.N, s.B.S, s.B.Args⟩ : Expr) _ (cond_t (and_t (not_t c1) c2) hr2)
 refine AWp.rg tt_ok [orn2 pr1, orn2 pr2] (by kernel_rfl) (all_cons pr2 (all_cons pr1 all_nil)) ?_
 refine AE.tn_ (AWp.cnd h (by kernel_rfl) ?_ ?_) <;> clear h <;> intro h
 ·refine AWp.seq (AWp.rg tt_ok [] (by kernel_rfl) all_nil ?_)
  refine AE.tn_ (AWp.ret ?_)
  obtain rfl := Option.some.inj h
  exact AE.tr_ (post_ret (by kernel_rfl))
 ·refine AWp.skip (AE.tn_ (AWp.seq (AWp.seq (AWp.rg tt_ok [] (by kernel_rfl) all_nil ?_))))
  refine AE.tn_ (AWp.block (AWp.seq (AWp.rg tt_ok [] (by kernel_rfl) all_nil ?_)))
  refine AE.tn_ (AWp.cnd h (by kernel_rfl) ?_ ?_) <;> clear h <;> intro h
  ·refine AWp.seq (AWp.rg tt_ok [] (by kernel_rfl) all_nil ?_)
   refine AE.tn_ (AWp.ret ?_)
   obtain rfl := Option.some.inj h
   exact AE.br_ (AE.tr_ (post_ret (by kernel_rfl)))
  ·refine AWp.seq (AWp.rg tt_ok [] (by kernel_rfl) all_nil ?_)
   refine AE.tn_ (AWp.cnd h (by kernel_rfl) ?_ ?_) <;> clear h <;> intro h
   ·refine AWp.seq (AWp.rg tt_ok [] (by kernel_rfl) all_nil ?_)
    refine AE.tn_ (AWp.ret ?_)
    obtain rfl := Option.some.inj h
    exact AE.br_ (AE.tr_ (post_ret (by kernel_rfl)))
   ·refine AWp.skip (AE.bn_ (AE.tn_ ?_))
    refine AWp.seq (AWp.rg tt_ok [] (by kernel_rfl) all_nil ?_)
    refine AE.tn_ (AWp.ret ?_)
    obtain rfl := Option.some.inj h
    exact post_ret (by kernel_rfl)
theorem c_bg0 (n : Nat) (op : Int) (r : ast_uses × Bool) (h : F_bg0 n op = some r) : saysOf Tryz.prog 109 [.v (.int .i64 op)] [] [] (.ret (.tup [.v (.agg [.bool r.1.name, .bool r.1.a, .bool r.1.b, .bool r.1.max, .bool r.1.body, .bool r.1.other]), .v (.bool r.2)]) none) [] := by
 refine sw_ tt_ok Tryz.func109 rfl rfl rfl ?_
 unfold F_bg0 at h
 refine AWp.seq (AWp.rg tt_ok [] (by kernel_rfl) all_nil ?_)
 refine AE.tn_ (AWp.cut (fun st' => restr [2] [0] 1 st'.env st'.H st'.nxt = some ⟨[(2, ⟨.ptr 0 0, none⟩)], [(0, [⟨.v (.bool false), none⟩, ⟨.v (.bool false), none⟩, ⟨.v (.bool false), none⟩, ⟨.v (.bool false), none⟩, ⟨.v (.bool false), none⟩, ⟨.v (.bool false), none⟩])], 1⟩ ∧ F_bg0_j1 n = some r) ?_ ?_)
 ·refine AWp.seq (AWp.rg tt_ok [] (by kernel_rfl) all_nil ?_)
  refine AE.tn_ (AWp.block (AWp.cut (fun st' => ∃ (v1 : Bool), restr [2, 4, 5] [0] 1 st'.env st'.H st'.nxt = some ⟨[(2, ⟨.ptr 0 0, none⟩), (4, ⟨.v (.int .i64 op), none⟩), (5, ⟨.v (.bool v1), none⟩)], [(0, [⟨.v (.bool false), none⟩, ⟨.v (.bool false), none⟩, ⟨.v (.bool false), none⟩, ⟨.v (.bool false), none⟩, ⟨.v (.bool false), none⟩, ⟨.v (.bool false), none⟩])], 1⟩ ∧ F_bg0_j2 n op v1 = some r) ?_ ?_))
  ·refine AWp.seq (AWp.rg tt_ok [] (by kernel_rfl) all_nil ?_)
   refine AE.tn_ (AWp.cnd h (by kernel_rfl) ?_ ?_) <;> clear h <;> intro h
   ·exact AWp.skip (AE.tn_ ⟨(decide (op = 1)), by kernel_rfl, h⟩)
   ·refine AWp.rg tt_ok [] (by kernel_rfl) all_nil ?_
    exact AE.tn_ ⟨(decide (op = 2)), by kernel_rfl, h⟩
  ·clear h
   rintro st' ⟨v1, hr', h⟩
   refine AWp.drop _ _ _ hr' (by kernel_rfl) ?_
   clear hr' st'
   unfold F_bg0_j2 at h
   refine AWp.cnd h (by kernel_rfl) ?_ ?_ <;> clear h <;> intro h
   ·refine AWp.seq (AWp.rg tt_ok [] (by kernel_rfl) all_nil ?_)
    refine AE.tn_ (AWp.ret ?_)
    obtain rfl := Option.some.inj h
    exact AE.br_ (AE.tr_ (post_ret (by kernel_rfl)))
   ·refine AWp.seq (AWp.rg tt_ok [] (by kernel_rfl) all_nil ?_)
    refine AE.tn_ (AWp.cnd h (by kernel_rfl) ?_ ?_) <;> clear h <;> intro h
    ·refine AWp.seq (AWp.rg tt_ok [] (by kernel_rfl) all_nil ?_)
     refine AE.tn_ (AWp.ret ?_)
     obtain rfl := Option.some.inj h
     exact AE.br_ (AE.tr_ (post_ret (by kernel_rfl)))
    ·refine AWp.cut (fun st' => ∃ (v2 : Bool), restr [2, 4, 12] [0] 1 st'.env st'.H st'.nxt = some ⟨[(2, ⟨.ptr 0 0, none⟩), (4, ⟨.v (.int .i64 op), none⟩), (12, ⟨.v (.bool v2), none⟩)], [(0, [⟨.v (.bool false), none⟩, ⟨.v (.bool false), none⟩, ⟨.v (.bool false), none⟩, ⟨.v (.bool false), none⟩, ⟨.v (.bool false), none⟩, ⟨.v (.bool false), none⟩])], 1⟩ ∧ F_bg0_j3 n op v2 = some r) ?_ ?_
     ·refine AWp.seq (AWp.rg tt_ok [] (by kernel_rfl) all_nil ?_)
      refine AE.tn_ (AWp.cnd h (by kernel_rfl) ?_ ?_) <;> clear h <;> intro h
      ·exact AWp.skip (AE.tn_ ⟨(decide (op = 4)), by kernel_rfl, h⟩)
      ·refine AWp.rg tt_ok [] (by kernel_rfl) all_nil ?_
       exact AE.tn_ ⟨(decide (op = 7)), by kernel_rfl, h⟩
     ·clear h
      rintro st' ⟨v2, hr', h⟩
      refine AWp.drop _ _ _ hr' (by kernel_rfl) ?_
      clear hr' st'
      unfold F_bg0_j3 at h
      refine AWp.cnd h (by kernel_rfl) ?_ ?_ <;> clear h <;> intro h
      ·refine AWp.seq (AWp.rg tt_ok [] (by kernel_rfl) all_nil ?_)
       refine AE.tn_ (AWp.ret ?_)
       obtain rfl := Option.some.inj h
       exact AE.br_ (AE.tr_ (post_ret (by kernel_rfl)))
      ·refine AWp.seq (AWp.rg tt_ok [] (by kernel_rfl) all_nil ?_)
       refine AE.tn_ (AWp.cnd h (by kernel_rfl) ?_ ?_) <;> clear h <;> intro h
       ·refine AWp.seq (AWp.rg tt_ok [] (by kernel_rfl) all_nil ?_)
        refine AE.tn_ (AWp.ret ?_)
        obtain rfl := Option.some.inj h
        exact AE.br_ (AE.tr_ (post_ret (by kernel_rfl)))
       ·refine AWp.seq (AWp.rg tt_ok [] (by kernel_rfl) all_nil ?_)
        refine AE.tn_ (AWp.cnd h (by kernel_rfl) ?_ ?_) <;> clear h <;> intro h
        ·refine AWp.seq (AWp.rg tt_ok [] (by kernel_rfl) all_nil ?_)
         refine AE.tn_ (AWp.ret ?_)
         obtain rfl := Option.some.inj h
         exact AE.br_ (AE.tr_ (post_ret (by kernel_rfl)))
        ·refine AWp.seq (AWp.rg tt_ok [] (by kernel_rfl) all_nil ?_)
         refine AE.tn_ (AWp.cnd h (by kernel_rfl) ?_ ?_) <;> clear h <;> intro h
         ·refine AWp.seq (AWp.rg tt_ok [] (by kernel_rfl) all_nil ?_)
          refine AE.tn_ (AWp.ret ?_)
          obtain rfl := Option.some.inj h
          exact AE.br_ (AE.tr_ (post_ret (by kernel_rfl)))
         ·exact AWp.skip (AE.bn_ (AE.tn_ ⟨by kernel_rfl, h⟩))
 ·clear h
  rintro st' ⟨hr', h⟩
  refine AWp.drop _ _ _ hr' (by kernel_rfl) ?_
  clear hr' st'
  unfold F_bg0_j1 at h
  refine AWp.seq (AWp.rg tt_ok [] (by kernel_rfl) all_nil ?_)
  refine AE.tn_ (AWp.ret ?_)
  obtain rfl := Option.some.inj h
  exact post_ret (by kernel_rfl)
theorem c_bd0 (n : Nat) (s : Stmt) (depth : Int) (r : Int) (h : F_bd0 n s depth = some r) : saysOf Tryz.prog 54 [.v (.agg [.int .i64 s.Op, .str s.Name, .int .i64 s.Max, .int .i64 s.A.Op, .int .i64 s.A.N, .str s.A.S, encL 4 enc_Expr s.A.Args, .int .i64 s.B.Op, .int .i64 s.B.N, .str s.B.S, encL 4 enc_Expr s.B.Args, encL 13 enc_Stmt s.Body, encL 13 enc_Stmt s.Else]), .v (.int .i64 depth)] [] [] (.ret (.v (.int .i64 r)) none) [] := by
 refine sw_ tt_ok Tryz.func54 rfl rfl rfl ?_
 unfold F_bd0 at h
 refine AWp.seq (AWp.rg tt_ok [] (by kernel_rfl) all_nil ?_)
 refine AE.tn_ (AWp.seq ?_)
 obtain ⟨r1, hr1, h⟩ := bind_some h
 have pr1 := c_bg0 n s.Op _ hr1
 refine AWp.rg tt_ok [orn pr1 []] (by kernel_rfl) (all_cons pr1 all_nil) ?_
 refine AE.tn_ (AWp.seq (AWp.seq ?_))
 obtain ⟨r2, hr2, h⟩ := bind_some h
 have pr2 := fun c1 => c_dy0 n (⟨s.Op, s.Name, s.Max, (⟨s.A.Op, s.A.N, s.A.S, s.A.Args⟩ : Expr), (⟨s.B.Op, s.B.N, s.B.S, s.B.Args⟩ : Expr), s.Body, s.Else⟩ : Stmt) r1.1 _ (cond_t (not_t c1) hr2)
 refine AWp.rg tt_ok [orn1 pr2] (by kernel_rfl) (all_cons pr2 all_nil) ?_
 refine AE.tn_ (AWp.cnd h (by kernel_rfl) ?_ ?_) <;> clear h <;> intro h
 ·refine AWp.seq (AWp.rg tt_ok [] (by kernel_rfl) all_nil ?_)
  refine AE.tn_ (AWp.ret ?_)
  obtain rfl := Option.some.inj h
  exact AE.tr_ (post_ret (by kernel_rfl))
 ·refine AWp.skip (AE.tn_ (AWp.seq (AWp.seq ?_)))
  obtain ⟨r4, hr4, h⟩ := bind_some h
  have pr4 := fun c1 => c_bu0 n s.Name _ (cond_t c1 hr4)
  refine AWp.rg tt_ok [orn1 pr4] (by kernel_rfl) (all_cons pr4 all_nil) ?_
  refine AE.tn_ (AWp.cnd h (by kernel_rfl) ?_ ?_) <;> clear h <;> intro h
  ·refine AWp.seq (AWp.rg tt_ok [] (by kernel_rfl) all_nil ?_)
   refine AE.tn_ (AWp.ret ?_)
   obtain rfl := Option.some.inj h
   exact AE.tr_ (post_ret (by kernel_rfl))
  ·refine AWp.skip (AE.tn_ (AWp.cut (fun st' => restr [1, 2, 5] [0, 1] 2 st'.env st'.H st'.nxt = some ⟨[(1, ⟨.v (.int .i64 depth), none⟩), (2, ⟨.ptr 0 0, none⟩), (5, ⟨.ptr 1 0, none⟩)], [(0, [⟨.v (.int .i64 s.Op), none⟩, ⟨.v (.str s.Name), none⟩, ⟨.v (.int .i64 s.Max), none⟩, ⟨.v (.int .i64 s.A.Op), none⟩, ⟨.v (.int .i64 s.A.N), none⟩, ⟨.v (.str s.A.S), none⟩, ⟨.v (encL 4 enc_Expr s.A.Args), none⟩, ⟨.v (.int .i64 s.B.Op), none⟩, ⟨.v (.int .i64 s.B.N), none⟩, ⟨.v (.str s.B.S), none⟩, ⟨.v (encL 4 enc_Expr s.B.Args), none⟩, ⟨.v (encL 13 enc_Stmt s.Body), none⟩, ⟨.v (encL 13 enc_Stmt s.Else), none⟩]), (1, [⟨.v (.bool r1.1.name), none⟩, ⟨.v (.bool r1.1.a), none⟩, ⟨.v (.bool r1.1.b), none⟩, ⟨.v (.bool r1.1.max), none⟩, ⟨.v (.bool r1.1.body), none⟩, ⟨.v (.bool r1.1.other), none⟩])], 2⟩ ∧ F_bd0_j1 n depth s r1 = some r) ?_ ?_))
   ·refine AWp.seq (AWp.rg tt_ok [] (by kernel_rfl) all_nil ?_)
    refine AE.tn_ (AWp.cnd h (by kernel_rfl) ?_ ?_) <;> clear h <;> intro h
    ·refine AWp.seq ?_
     obtain ⟨r6, hr6, h⟩ := bind_some h
     have pr6 := c_ci0 n (⟨s.A.Op, s.A.N, s.A.S, s.A.Args⟩ : Expr) _ hr6
     refine AWp.rg tt_ok [orn pr6 []] (by kernel_rfl) (all_cons pr6 all_nil) ?_
     refine AE.tn_ (AWp.seq (AWp.rg tt_ok [] (by kernel_rfl) all_nil ?_))
     refine AE.tn_ (AWp.cnd h (by kernel_rfl) ?_ ?_) <;> clear h <;> intro h
     ·refine AWp.seq (AWp.rg tt_ok [] (by kernel_rfl) all_nil ?_)
      refine AE.tn_ (AWp.ret ?_)
      obtain rfl := Option.some.inj h
      exact AE.tr_ (post_ret (by kernel_rfl))
     ·exact AWp.skip (AE.tn_ ⟨by kernel_rfl, h⟩)
    ·exact AWp.skip (AE.tn_ ⟨by kernel_rfl, h⟩)
   ·clear h
    rintro st' ⟨hr', h⟩
    refine AWp.drop _ _ _ hr' (by kernel_rfl) ?_
    clear hr' st'
    unfold F_bd0_j1 at h
    refine AWp.cut (fun st' => restr [1] [] 0 st'.env st'.H st'.nxt = some ⟨[(1, ⟨.v (.int .i64 depth), none⟩)], [], 0⟩ ∧ F_bd0_j2 n depth = some r) ?_ ?_
    ·refine AWp.seq (AWp.rg tt_ok [] (by kernel_rfl) all_nil ?_)
     refine AE.tn_ (AWp.cnd h (by kernel_rfl) ?_ ?_) <;> clear h <;> intro h
     ·refine AWp.seq ?_
      obtain ⟨r7, hr7, h⟩ := bind_some h
      have pr7 := c_ci0 n (⟨s.B.Op, s.B.N, s.B.S, s.B.Args⟩ : Expr) _ hr7
      refine AWp.rg tt_ok [orn pr7 []] (by kernel_rfl) (all_cons pr7 all_nil) ?_
      refine AE.tn_ (AWp.seq (AWp.rg tt_ok [] (by kernel_rfl) all_nil ?_))
      refine AE.tn_ (AWp.cnd h (by kernel_rfl) ?_ ?_) <;> clear h <;> intro h
      ·refine AWp.seq (AWp.rg tt_ok [] (by kernel_rfl) all_nil ?_)
       refine AE.tn_ (AWp.ret ?_)
       obtain rfl := Option.some.inj h
       exact AE.tr_ (post_ret (by kernel_rfl))
      ·exact AWp.skip (AE.tn_ ⟨by kernel_rfl, h⟩)
     ·exact AWp.skip (AE.tn_ ⟨by kernel_rfl, h⟩)
    ·clear h
     rintro st' ⟨hr', h⟩
     refine AWp.drop _ _ _ hr' (by kernel_rfl) ?_
     clear hr' st'
     unfold F_bd0_j2 at h
     refine AWp.seq (AWp.seq (AWp.rg tt_ok [] (by kernel_rfl) all_nil ?_))
     refine AE.tn_ (AWp.cnd h (by kernel_rfl) ?_ ?_) <;> clear h <;> intro h
     ·refine AWp.seq (AWp.rg tt_ok [] (by kernel_rfl) all_nil ?_)
      refine AE.tn_ (AWp.ret ?_)
      obtain rfl := Option.some.inj h
      exact AE.tr_ (post_ret (by kernel_rfl))
     ·refine AWp.skip (AE.tn_ (AWp.seq (AWp.rg tt_ok [] (by kernel_rfl) all_nil ?_)))
      refine AE.tn_ (AWp.ret ?_)
      obtain rfl := Option.some.inj h
      exact post_ret (by kernel_rfl)
theorem c_df0 (n : Nat) (s : Stmt) (depth : Int) (b0_ : Int) (r : Int) (h : F_df0 n s depth b0_ = some r) : saysOf Tryz.prog 53 [.v (.agg [.int .i64 s.Op, .str s.Name, .int .i64 s.Max, .int .i64 s.A.Op, .int .i64 s.A.N, .str s.A.S, encL 4 enc_Expr s.A.Args, .int .i64 s.B.Op, .int .i64 s.B.N, .str s.B.S, encL 4 enc_Expr s.B.Args, encL 13 enc_Stmt s.Body, encL 13 enc_Stmt s.Else]), .v (.int .i64 depth), .ptr 0 0] [] [[⟨.v (.int .i64 b0_), none⟩]] (.ret (.tup []) none) [[⟨.v (.int .i64 r), none⟩]] := by
 refine sw_ tt_ok Tryz.func53 rfl rfl rfl ?_
 unfold F_df0 at h
 refine AWp.seq (AWp.rg tt_ok [] (by kernel_rfl) all_nil ?_)
 refine AE.tn_ (AWp.seq (AWp.rg tt_ok [] (by kernel_rfl) all_nil ?_))
 refine AE.tn_ (AWp.cnd h (by kernel_rfl) ?_ ?_) <;> clear h <;> intro h
 ·obtain ⟨r2, hr2, h⟩ := bind_some h
  have pr2 := c_bd0 n (⟨s.Op, s.Name, s.Max, (⟨s.A.Op, s.A.N, s.A.S, s.A.Args⟩ : Expr), (⟨s.B.Op, s.B.N, s.B.S, s.B.Args⟩ : Expr), s.Body, s.Else⟩ : Stmt) depth _ hr2
  refine AWp.rg tt_ok [orn pr2 []] (by kernel_rfl) (all_cons pr2 all_nil) ?_
  obtain rfl := Option.some.inj h
  exact post_normal (by kernel_rfl)
 ·refine AWp.skip ?_
  obtain rfl := Option.some.inj h
  exact post_normal (by kernel_rfl)
theorem c_ea0 (n : Nat) (a0 : Expr) (r : Unit) (h : F_ea0 n a0 = some r) : saysOf Tryz.prog 55 [.v (.agg [.int .i64 a0.Op, .int .i64 a0.N, .str a0.S, encL 4 enc_Expr a0.Args])] [] [] (.ret (.tup []) none) [] := by
 refine sw_ tt_ok Tryz.func55 rfl rfl rfl ?_
 unfold F_ea0 at h
 refine AWp.rg tt_ok [] (by kernel_rfl) all_nil ?_
 obtain rfl := Option.some.inj h
 exact post_normal (by kernel_rfl)
theorem cB_ast_walker_expr (n : Nat) (f_aa0 : Expr → Int → Int → Option Int) (i_aa0 : ∀ (e : Expr) (b0_0_ : Int) (b1_ : Int) (r : Int), f_aa0 e b0_0_ b1_ = some r → saysOf Tryz.prog 172 [.ptr 0 0, .v (.agg [.int .i64 e.Op, .int .i64 e.N, .str e.S, encL 4 enc_Expr e.Args])] [] [[⟨.v (.int .i64 b0_0_), none⟩, ⟨.fn 53 [.ptr 1 0], none⟩, ⟨.fn 55 [], none⟩], [⟨.v (.int .i64 b1_), none⟩]] (.ret (.tup []) none) [[⟨.v (.int .i64 r), none⟩, ⟨.fn 53 [.ptr 1 0], none⟩, ⟨.fn 55 [], none⟩], [⟨.v (.int .i64 b1_), none⟩]]) (e : Expr) (b0_0_ : Int) (b1_ : Int) (r : Int) (h : B_aa0 n f_aa0 e b0_0_ b1_ = some r) : saysOf Tryz.prog 172 [.ptr 0 0, .v (.agg [.int .i64 e.Op, .int .i64 e.N, .str e.S, encL 4 enc_Expr e.Args])] [] [[⟨.v (.int .i64 b0_0_), none⟩, ⟨.fn 53 [.ptr 1 0], none⟩, ⟨.fn 55 [], none⟩], [⟨.v (.int .i64 b1_), none⟩]] (.ret (.tup []) none) [[⟨.v (.int .i64 r), none⟩, ⟨.fn 53 [.ptr 1 0], none⟩, ⟨.fn 55 [], none⟩], [⟨.v (.int .i64 b1_), none⟩]] := by
 refine sw_ tt_ok Tryz.func172 rfl rfl rfl ?_
 unfold B_aa0 at h
 refine AWp.seq (AWp.rg tt_ok [] (by kernel_rfl) all_nil ?_)
 refine AE.tn_ (AWp.seq (AWp.seq (AWp.rg tt_ok [] (by kernel_rfl) all_nil ?_)))
 refine AE.tn_ (AWp.cnd h (by kernel_rfl) ?_ ?_) <;> clear h <;> intro h
 ·refine AWp.ret ?_
  obtain rfl := Option.some.inj h
  exact AE.tr_ (post_ret (by kernel_rfl))
 ·refine AWp.skip (AE.tn_ (AWp.seq (AWp.rg tt_ok [] (by kernel_rfl) all_nil ?_)))
  refine AE.tn_ (AWp.seq (AWp.rg tt_ok [] (by kernel_rfl) all_nil ?_))
  refine AE.tn_ (AWp.block (AWp.loop (σ := Int × Int) (fun zm zs zst => restr [0, 19, 20, 21] [0, 1] 2 zst.env zst.H zst.nxt = some ⟨[(0, ⟨.ptr 0 0, none⟩), (19, ⟨.v (encL 4 enc_Expr e.Args), none⟩), (20, ⟨.v (.int .i64 ((e.Args.length : Nat) : Int)), none⟩), (21, ⟨.v (.int .i64 zs.2), none⟩)], [(0, [⟨.v (.int .i64 zs.1), none⟩, ⟨.fn 53 [.ptr 1 0], none⟩, ⟨.fn 55 [], none⟩]), (1, [⟨.v (.int .i64 b1_), none⟩])], 2⟩ ∧ F_aa0_l1 n f_aa0 e b1_ zm zs.1 zs.2 = some r) ?_ (n := n) (s := ((IntKind.i64.wrap (b0_0_ - 1)), 0)) ⟨by kernel_rfl, h⟩))
  clear h
  rintro m1 ⟨v6, v7⟩ st' ⟨hr', h⟩
  cases m1 with
  | zero =>
   have h2 : (none : Option _) = some r := h
   cases h2
  | succ m1 =>
   refine ⟨m1, rfl, AWp.drop _ _ _ hr' (by kernel_rfl) ?_⟩
   clear hr' st'
   replace h : F_aa0_b1 n f_aa0 e b1_ (F_aa0_l1 n f_aa0 e b1_ m1) v6 v7 = some r := h
   unfold F_aa0_b1 at h
   refine AWp.seq (AWp.rg tt_ok [] (by kernel_rfl) all_nil ?_)
   refine AE.tn_ (AWp.seq (AWp.cnd h (by kernel_rfl) ?_ ?_)) <;> clear h <;> intro h
   ·refine AWp.skip (AE.tn_ (AWp.seq (AWp.block (AWp.seq ?_))))
    obtain ⟨g8, h⟩ := ass_some h
    refine AWp.rg tt_ok [orv (enc_vimp_Expr (e.Args.getD (v7).toNat default))] (by kernel_rfl) (all_cons (enc_vimp_Expr (e.Args.getD (v7).toNat default)) (all_cons g8 all_nil)) ?_
    refine AE.tn_ ?_
    obtain ⟨r9, hr9, h⟩ := bind_some h
    have pr9 := i_aa0 (e.Args.getD (v7).toNat default) v6 b1_ _ hr9
    refine AWp.rg tt_ok [orc pr9 []] (by kernel_rfl) (all_cons pr9 all_nil) ?_
    refine AE.bn_ (AE.tn_ ?_)
    refine AWp.rg tt_ok [] (by kernel_rfl) all_nil ?_
    exact AE.tn_ ⟨(r9, (IntKind.i64.wrap (v7 + 1))), by kernel_rfl, h⟩
   ·refine AWp.exit ?_
    obtain rfl := Option.some.inj h
    exact AE.tx_ (AE.tx_ (AE.block_hit (post_normal (by kernel_rfl))))
theorem c_aa0 (n : Nat) : ∀ (e : Expr) (b0_0_ : Int) (b1_ : Int) (r : Int), F_aa0 n e b0_0_ b1_ = some r → saysOf Tryz.prog 172 [.ptr 0 0, .v (.agg [.int .i64 e.Op, .int .i64 e.N, .str e.S, encL 4 enc_Expr e.Args])] [] [[⟨.v (.int .i64 b0_0_), none⟩, ⟨.fn 53 [.ptr 1 0], none⟩, ⟨.fn 55 [], none⟩], [⟨.v (.int .i64 b1_), none⟩]] (.ret (.tup []) none) [[⟨.v (.int .i64 r), none⟩, ⟨.fn 53 [.ptr 1 0], none⟩, ⟨.fn 55 [], none⟩], [⟨.v (.int .i64 b1_), none⟩]] := by
 induction n with
 | zero => intro e b0_0_ b1_ r h; have h2 : (none : Option _) = some r := h; cases h2
 | succ m ih => intro e b0_0_ b1_ r h; exact cB_ast_walker_expr m (F_aa0 m) ih e b0_0_ b1_ r h
theorem c_cg0 (n : Nat) (e : Expr) (b0_0_ : Int) (b1_ : Int) (r : Int) (h : F_cg0 n e b0_0_ b1_ = some r) : saysOf Tryz.prog 144 [.ptr 0 0, .v (.agg [.int .i64 e.Op, .int .i64 e.N, .str e.S, encL 4 enc_Expr e.Args])] [] [[⟨.v (.int .i64 b0_0_), none⟩, ⟨.fn 53 [.ptr 1 0], none⟩, ⟨.fn 55 [], none⟩], [⟨.v (.int .i64 b1_), none⟩]] (.ret (.tup []) none) [[⟨.v (.int .i64 r), none⟩, ⟨.fn 53 [.ptr 1 0], none⟩, ⟨.fn 55 [], none⟩], [⟨.v (.int .i64 b1_), none⟩]] := by
 refine sw_ tt_ok Tryz.func144 rfl rfl rfl ?_
 unfold F_cg0 at h
 refine AWp.seq (AWp.rg tt_ok [] (by kernel_rfl) all_nil ?_)
 refine AE.tn_ (AWp.seq (AWp.seq ?_))
 obtain ⟨r1, hr1, h⟩ := bind_some h
 have pr1 := fun c1 => c_dc0 n e _ (cond_t (not_t c1) hr1)
 refine AWp.rg tt_ok [orn1 pr1] (by kernel_rfl) (all_cons pr1 all_nil) ?_
 refine AE.tn_ (AWp.cnd h (by kernel_rfl) ?_ ?_) <;> clear h <;> intro h
 ·refine AWp.ret ?_
  obtain rfl := Option.some.inj h
  exact AE.tr_ (post_ret (by kernel_rfl))
 ·refine AWp.skip (AE.tn_ (AWp.seq ?_))
  obtain ⟨r3, hr3, h⟩ := bind_some h
  have pr3 := c_ea0 n e _ hr3
  refine AWp.rgD tt_ok mo_ok [(5, [orn pr3 []])] (by kernel_rfl) (all_cons pr3 all_nil) ?_
  refine AE.tn_ ?_
  obtain ⟨r4, hr4, h⟩ := bind_some h
  have pr4 := c_aa0 n e b0_0_ b1_ _ hr4
  refine AWp.rg tt_ok [orc pr4 []] (by kernel_rfl) (all_cons pr4 all_nil) ?_
  obtain rfl := Option.some.inj h
  exact post_normal (by kernel_rfl)
theorem cB_ast_walker_block (n : Nat) (f_x0 : (List Stmt) → Int → Int → Int → Option (Int × Int)) (i_x0 : ∀ (l : List Stmt) (depth : Int) (b0_0_ : Int) (b1_ : Int) (r : Int × Int), f_x0 l depth b0_0_ b1_ = some r → saysOf Tryz.prog 108 [.ptr 0 0, .v (encL 13 enc_Stmt l), .v (.int .i64 depth)] [] [[⟨.v (.int .i64 b0_0_), none⟩, ⟨.fn 53 [.ptr 1 0], none⟩, ⟨.fn 55 [], none⟩], [⟨.v (.int .i64 b1_), none⟩]] (.ret (.tup []) none) [[⟨.v (.int .i64 r.1), none⟩, ⟨.fn 53 [.ptr 1 0], none⟩, ⟨.fn 55 [], none⟩], [⟨.v (.int .i64 r.2), none⟩]]) (l : List Stmt) (depth : Int) (b0_0_ : Int) (b1_ : Int) (r : Int × Int) (h : B_x0 n f_x0 l depth b0_0_ b1_ = some r) : saysOf Tryz.prog 108 [.ptr 0 0, .v (encL 13 enc_Stmt l), .v (.int .i64 depth)] [] [[⟨.v (.int .i64 b0_0_), none⟩, ⟨.fn 53 [.ptr 1 0], none⟩, ⟨.fn 55 [], none⟩], [⟨.v (.int .i64 b1_), none⟩]] (.ret (.tup []) none) [[⟨.v (.int .i64 r.1), none⟩, ⟨.fn 53 [.ptr 1 0], none⟩, ⟨.fn 55 [], none⟩], [⟨.v (.int .i64 r.2), none⟩]] := by
 refine sw_ tt_ok Tryz.func108 rfl rfl rfl ?_
 unfold B_x0 at h
 refine AWp.seq (AWp.rg tt_ok [] (by kernel_rfl) all_nil ?_)
 refine AE.tn_ (AWp.block (AWp.loop (σ := Int × Int × Int) (fun zm zs zst => restr [0, 2, 8, 9, 10] [0, 1] 2 zst.env zst.H zst.nxt = some ⟨[(0, ⟨.ptr 0 0, none⟩), (2, ⟨.v (.int .i64 depth), none⟩), (8, ⟨.v (encL 13 enc_Stmt l), none⟩), (9, ⟨.v (.int .i64 ((l.length : Nat) : Int)), none⟩), (10, ⟨.v (.int .i64 zs.2.2), none⟩)], [(0, [⟨.v (.int .i64 zs.1), none⟩, ⟨.fn 53 [.ptr 1 0], none⟩, ⟨.fn 55 [], none⟩]), (1, [⟨.v (.int .i64 zs.2.1), none⟩])], 2⟩ ∧ F_x0_l1 n f_x0 depth l zm zs.1 zs.2.1 zs.2.2 = some r) ?_ (n := n) (s := (b0_0_, b1_, 0)) ⟨by kernel_rfl, h⟩))
 clear h
 rintro m1 ⟨v10, v11, v12⟩ st' ⟨hr', h⟩
 cases m1 with
 | zero =>
  have h2 : (none : Option _) = some r := h
  cases h2
 | succ m1 =>
  refine ⟨m1, rfl, AWp.drop _ _ _ hr' (by kernel_rfl) ?_⟩
  clear hr' st'
  replace h : F_x0_b1 n f_x0 depth l (F_x0_l1 n f_x0 depth l m1) v10 v11 v12 = some r := h
  unfold F_x0_b1 at h
  refine AWp.seq (AWp.rg tt_ok [] (by kernel_rfl) all_nil ?_)
  refine AE.tn_ (AWp.seq (AWp.cnd h (by kernel_rfl) ?_ ?_)) <;> clear h <;> intro h
  ·refine AWp.skip (AE.tn_ (AWp.seq (AWp.block (AWp.seq ?_))))
   obtain ⟨g13, h⟩ := ass_some h
   refine AWp.rg tt_ok [orv (enc_vimp_Stmt (l.getD (v12).toNat default))] (by kernel_rfl) (all_cons (enc_vimp_Stmt (l.getD (v12).toNat default)) (all_cons g13 all_nil)) ?_
   refine AE.tn_ (AWp.seq (AWp.seq (AWp.rg tt_ok [] (by kernel_rfl) all_nil ?_)))
   refine AE.tn_ (AWp.cnd h (by kernel_rfl) ?_ ?_) <;> clear h <;> intro h
   ·refine AWp.ret ?_
    obtain rfl := Option.some.inj h
    exact AE.tr_ (AE.br_ (AE.tr_ (AE.tr_ (AE.br_ (post_ret (by kernel_rfl))))))
   ·refine AWp.skip (AE.tn_ (AWp.seq (AWp.rg tt_ok [] (by kernel_rfl) all_nil ?_)))
    refine AE.tn_ (AWp.seq ?_)
    obtain ⟨r14, hr14, h⟩ := bind_some h
    have pr14 := c_df0 n (⟨(l.getD (v12).toNat default).Op, (l.getD (v12).toNat default).Name, (l.getD (v12).toNat default).Max, (⟨((l.getD (v12).toNat default).A).Op, ((l.getD (v12).toNat default).A).N, ((l.getD (v12).toNat default).A).S, ((l.getD (v12).toNat default).A).Args⟩ : Expr), (⟨((l.getD (v12).toNat default).B).Op, ((l.getD (v12).toNat default).B).N, ((l.getD (v12).toNat default).B).S, ((l.getD (v12).toNat default).B).Args⟩ : Expr), (l.getD (v12).toNat default).Body, (l.getD (v12).toNat default).Else⟩ : Stmt) depth v11 _ hr14
    refine AWp.rgD tt_ok mo_ok [(6, [orc pr14 []])] (by kernel_rfl) (all_cons pr14 all_nil) ?_
    refine AE.tn_ (AWp.seq ?_)
    obtain ⟨r15, hr15, h⟩ := bind_some h
    have pr15 := c_cg0 n (⟨((l.getD (v12).toNat default).A).Op, ((l.getD (v12).toNat default).A).N, ((l.getD (v12).toNat default).A).S, ((l.getD (v12).toNat default).A).Args⟩ : Expr) (IntKind.i64.wrap (v10 - 1)) r14 _ hr15
    refine AWp.rg tt_ok [orc pr15 []] (by kernel_rfl) (all_cons pr15 all_nil) ?_
    refine AE.tn_ (AWp.seq ?_)
    obtain ⟨r16, hr16, h⟩ := bind_some h
    have pr16 := c_cg0 n (⟨((l.getD (v12).toNat default).B).Op, ((l.getD (v12).toNat default).B).N, ((l.getD (v12).toNat default).B).S, ((l.getD (v12).toNat default).B).Args⟩ : Expr) r15 r14 _ hr16
    refine AWp.rg tt_ok [orc pr16 []] (by kernel_rfl) (all_cons pr16 all_nil) ?_
    refine AE.tn_ (AWp.seq ?_)
    obtain ⟨r17, hr17, h⟩ := bind_some h
    have pr17 := i_x0 ((l.getD (v12).toNat default).Body) (IntKind.i64.wrap (depth + 1)) r16 r14 _ hr17
    refine AWp.rg tt_ok [orc pr17 []] (by kernel_rfl) (all_cons pr17 all_nil) ?_
    refine AE.tn_ ?_
    obtain ⟨r18, hr18, h⟩ := bind_some h
    have pr18 := i_x0 ((l.getD (v12).toNat default).Else) (IntKind.i64.wrap (depth + 1)) r17.1 r17.2 _ hr18
    refine AWp.rg tt_ok [orc pr18 []] (by kernel_rfl) (all_cons pr18 all_nil) ?_
    refine AE.bn_ (AE.tn_ ?_)
    refine AWp.rg tt_ok [] (by kernel_rfl) all_nil ?_
    exact AE.tn_ ⟨(r18.1, r18.2, (IntKind.i64.wrap (v12 + 1))), by kernel_rfl, h⟩
  ·refine AWp.exit ?_
   obtain rfl := Option.some.inj h
   exact AE.tx_ (AE.tx_ (AE.block_hit (post_normal (by kernel_rfl))))
theorem c_x0 (n : Nat) : ∀ (l : List Stmt) (depth : Int) (b0_0_ : Int) (b1_ : Int) (r : Int × Int), F_x0 n l depth b0_0_ b1_ = some r → saysOf Tryz.prog 108 [.ptr 0 0, .v (encL 13 enc_Stmt l), .v (.int .i64 depth)] [] [[⟨.v (.int .i64 b0_0_), none⟩, ⟨.fn 53 [.ptr 1 0], none⟩, ⟨.fn 55 [], none⟩], [⟨.v (.int .i64 b1_), none⟩]] (.ret (.tup []) none) [[⟨.v (.int .i64 r.1), none⟩, ⟨.fn 53 [.ptr 1 0], none⟩, ⟨.fn 55 [], none⟩], [⟨.v (.int .i64 r.2), none⟩]] := by
 induction n with
 | zero => intro l depth b0_0_ b1_ r h; have h2 : (none : Option _) = some r := h; cases h2
 | succ m ih => intro l depth b0_0_ b1_ r h; exact cB_ast_walker_block m (F_x0 m) ih l depth b0_0_ b1_ r h
theorem c_ec0 (n : Nat) (p : Proc) (b0_ : Int) (r : Int × Int) (h : F_ec0 n p b0_ = some r) : saysOf Tryz.prog 52 [.v (.agg [.str p.Name, encL 2 enc_Param p.Params, encL 13 enc_Stmt p.Body]), .fn 53 [.ptr 0 0], .fn 55 []] [] [[⟨.v (.int .i64 b0_), none⟩]] (.ret (.v (.int .i64 r.1)) none) [[⟨.v (.int .i64 r.2), none⟩]] := by
 refine sw_ tt_ok Tryz.func52 rfl rfl rfl ?_
 unfold F_ec0 at h
 refine AWp.seq (AWp.rg tt_ok [] (by kernel_rfl) all_nil ?_)
 refine AE.tn_ (AWp.seq (AWp.rg tt_ok [] (by kernel_rfl) all_nil ?_))
 refine AE.tn_ (AWp.seq ?_)
 obtain ⟨r1, hr1, h⟩ := bind_some h
 have pr1 := c_x0 n p.Body 1 401 b0_ _ hr1
 refine AWp.rg tt_ok [orc pr1 []] (by kernel_rfl) (all_cons pr1 all_nil) ?_
 refine AE.tn_ (AWp.seq (AWp.rg tt_ok [] (by kernel_rfl) all_nil ?_))
 refine AE.tn_ (AWp.ret ?_)
 obtain rfl := Option.some.inj h
 exact post_ret (by kernel_rfl)
theorem c_bw0 (n : Nat) (p : Proc) (r : Int) (h : F_bw0 n p = some r) : saysOf Tryz.prog 25 [.v (.agg [.str p.Name, encL 2 enc_Param p.Params, encL 13 enc_Stmt p.Body])] [] [] (.ret (.v (.int .i64 r)) none) [] := by
 refine sw_ tt_ok Tryz.func25 rfl rfl rfl ?_
 unfold F_bw0 at h
 refine AWp.seq (AWp.rg tt_ok [] (by kernel_rfl) all_nil ?_)
 refine AE.tn_ (AWp.seq (AWp.seq ?_))
 obtain ⟨r1, hr1, h⟩ := bind_some h
 have pr1 := c_bu0 n p.Name _ hr1
 refine AWp.rg tt_ok [orn pr1 []] (by kernel_rfl) (all_cons pr1 all_nil) ?_
 refine AE.tn_ (AWp.cnd h (by kernel_rfl) ?_ ?_) <;> clear h <;> intro h
 ·refine AWp.seq (AWp.rg tt_ok [] (by kernel_rfl) all_nil ?_)
  refine AE.tn_ (AWp.ret ?_)
  obtain rfl := Option.some.inj h
  exact AE.tr_ (post_ret (by kernel_rfl))
 ·refine AWp.skip (AE.tn_ (AWp.seq ?_))
  obtain ⟨r3, hr3, h⟩ := bind_some h
  have pr3 := c_bc0 n p.Params _ hr3
  refine AWp.rg tt_ok [orn pr3 []] (by kernel_rfl) (all_cons pr3 all_nil) ?_
  refine AE.tn_ (AWp.seq (AWp.seq (AWp.rg tt_ok [] (by kernel_rfl) all_nil ?_)))
  refine AE.tn_ (AWp.cnd h (by kernel_rfl) ?_ ?_) <;> clear h <;> intro h
  ·refine AWp.seq (AWp.rg tt_ok [] (by kernel_rfl) all_nil ?_)
   refine AE.tn_ (AWp.ret ?_)
   obtain rfl := Option.some.inj h
   exact AE.tr_ (post_ret (by kernel_rfl))
  ·refine AWp.skip (AE.tn_ (AWp.seq ?_))
   obtain ⟨r5, hr5, h⟩ := bind_some h
   have pr5 := c_ec0 n p r3 _ hr5
   refine AWp.rg tt_ok [orc pr5 []] (by kernel_rfl) (all_cons pr5 all_nil) ?_
   refine AE.tn_ (AWp.seq (AWp.seq (AWp.rg tt_ok [] (by kernel_rfl) all_nil ?_)))
   refine AE.tn_ (AWp.cnd h (by kernel_rfl) ?_ ?_) <;> clear h <;> intro h
   ·refine AWp.seq (AWp.rg tt_ok [] (by kernel_rfl) all_nil ?_)
    refine AE.tn_ (AWp.ret ?_)
    obtain rfl := Option.some.inj h
    exact AE.tr_ (post_ret (by kernel_rfl))
   ·refine AWp.skip (AE.tn_ (AWp.seq (AWp.rg tt_ok [] (by kernel_rfl) all_nil ?_)))
    refine AE.tn_ (AWp.ret ?_)
    obtain rfl := Option.some.inj h
    exact post_ret (by kernel_rfl)
theorem c_ai0 (n : Nat) (s : Stmt) (b0_ : PPz) (r : Pn Stmt Int) (h : F_ai0 n s b0_ = some r) : saysOf Tryz.prog 164 [.ptr 0 0, .v (.agg [.int .i64 s.Op, .str s.Name, .int .i64 s.Max, .int .i64 s.A.Op, .int .i64 s.A.N, .str s.A.S, encL 4 enc_Expr s.A.Args, .int .i64 s.B.Op, .int .i64 s.B.N, .str s.B.S, encL 4 enc_Expr s.B.Args, encL 13 enc_Stmt s.Body, encL 13 enc_Stmt s.Else])] [] [[⟨.v (encL 4 enc_Token b0_.tokens), none⟩, ⟨.v (.int .i64 b0_.at_), none⟩]] (Pn.on r (fun za zb => .ret (.v (.agg [.int .i64 za.Op, .str za.Name, .int .i64 za.Max, .int .i64 za.A.Op, .int .i64 za.A.N, .str za.A.S, encL 4 enc_Expr za.A.Args, .int .i64 za.B.Op, .int .i64 za.B.N, .str za.B.S, encL 4 enc_Expr za.B.Args, encL 13 enc_Stmt za.Body, encL 13 enc_Stmt za.Else])) none) (fun zx zb => .pan zx)) (Pn.on r (fun za zb => [[⟨.v (encL 4 enc_Token b0_.tokens), none⟩, ⟨.v (.int .i64 zb), none⟩]]) (fun zx zb => [[⟨.v (encL 4 enc_Token b0_.tokens), none⟩, ⟨.v (.int .i64 zb), none⟩]])) := by
 refine sw_ tt_ok Tryz.func164 rfl rfl rfl ?_
 unfold F_ai0 at h
 refine AWp.seq (AWp.rg tt_ok [] (by kernel_rfl) all_nil ?_)
 refine AE.tn_ (AWp.seq ?_)
 obtain ⟨r1, hr1, h⟩ := bind_some h
 cases r1 with
 | ret r2 r3 =>
  have pr1 := c_m0 n ([59] : List UInt8) b0_ _ hr1
  refine AWp.rg tt_ok [orc pr1 []] (by kernel_rfl) (all_cons pr1 all_nil) ?_
  refine AE.tn_ (AWp.seq (AWp.rg tt_ok [] (by kernel_rfl) all_nil ?_))
  refine AE.tn_ (AWp.ret ?_)
  obtain rfl := Option.some.inj h
  exact post_ret (by kernel_rfl)
 | pan x4 r3 =>
  have pr1 := c_m0 n ([59] : List UInt8) b0_ _ hr1
  refine AWp.rgP tt_ok [orc pr1 []] (x := x4) (by kernel_rfl) (all_cons pr1 all_nil) ?_
  obtain rfl := Option.some.inj h
  exact AE.then_pan (post_pan (by kernel_rfl))
theorem c_ab0 (n : Nat) (kind : Int) (b0_ : PPz) (r : Pn Token Int) (h : F_ab0 n kind b0_ = some r) : saysOf Tryz.prog 86 [.ptr 0 0, .v (.int .i64 kind)] [] [[⟨.v (encL 4 enc_Token b0_.tokens), none⟩, ⟨.v (.int .i64 b0_.at_), none⟩]] (Pn.on r (fun za zb => .ret (.v (.agg [.int .i64 za.Kind, .str za.Text, .int .i64 za.N, .int .i64 za.Line])) none) (fun zx zb => .pan zx)) (Pn.on r (fun za zb => [[⟨.v (encL 4 enc_Token b0_.tokens), none⟩, ⟨.v (.int .i64 zb), none⟩]]) (fun zx zb => [[⟨.v (encL 4 enc_Token b0_.tokens), none⟩, ⟨.v (.int .i64 zb), none⟩]])) := by
 refine sw_ tt_ok Tryz.func86 rfl rfl rfl ?_
 unfold F_ab0 at h
 refine AWp.seq (AWp.rg tt_ok [] (by kernel_rfl) all_nil ?_)
 refine AE.tn_ (AWp.cut (fun st' => restr [0, 4] [0, 1] 2 st'.env st'.H st'.nxt = some ⟨[(0, ⟨.ptr 0 0, none⟩), (4, ⟨.ptr 1 0, none⟩)], [(0, [⟨.v (encL 4 enc_Token b0_.tokens), none⟩, ⟨.v (.int .i64 b0_.at_), none⟩]), (1, [⟨.v (.int .i64 0), none⟩, ⟨.v (.str ([] : List UInt8)), none⟩, ⟨.v (.int .i64 0), none⟩, ⟨.v (.int .i64 0), none⟩])], 2⟩ ∧ F_ab0_j1 n b0_ = some r) ?_ ?_)
 ·refine AWp.seq ?_
  obtain ⟨g1, h⟩ := ass_some h
  refine AWp.rgD tt_ok mo_ok [(19, [.raw])] (by kernel_rfl) (all_cons (orF g1) all_nil) ?_
  refine AE.tn_ (AWp.cnd h (by kernel_rfl) ?_ ?_) <;> clear h <;> intro h
  ·obtain ⟨r2, hr2, h⟩ := bind_some h
   cases r2 with
   | ret r3 r4 =>
    have pr2 := c_w0 n 5 b0_ _ hr2
    refine AWp.rg tt_ok [orn pr2 []] (by kernel_rfl) (all_cons pr2 all_nil) ?_
    exact AE.tn_ ⟨by kernel_rfl, h⟩
   | pan x5 r4 =>
    have pr2 := c_w0 n 5 b0_ _ hr2
    refine AWp.rgP tt_ok [orn pr2 []] (x := x5) (by kernel_rfl) (all_cons pr2 all_nil) ?_
    obtain rfl := Option.some.inj h
    exact AE.then_pan (post_pan (by kernel_rfl))
  ·exact AWp.skip (AE.tn_ ⟨by kernel_rfl, h⟩)
 ·clear h
  rintro st' ⟨hr', h⟩
  refine AWp.drop _ _ _ hr' (by kernel_rfl) ?_
  clear hr' st'
  unfold F_ab0_j1 at h
  refine AWp.seq (AWp.rg tt_ok [] (by kernel_rfl) all_nil ?_)
  refine AE.tn_ (AWp.seq ?_)
  obtain ⟨g6, h⟩ := ass_some h
  refine AWp.rgD tt_ok mo_ok [(9, [.raw])] (by kernel_rfl) (all_cons g6 all_nil) ?_
  refine AE.tn_ (AWp.ret ?_)
  obtain rfl := Option.some.inj h
  exact post_ret (by kernel_rfl)
theorem cB_parser_parser_block (n : Nat) (f_b0 : Int → PPz → Option (Pn (List Stmt) Int)) (f_i0 : Int → PPz → Option (Pn Stmt Int)) (f_n0 : Int → PPz → Option (Pn Stmt Int)) (i_b0 : ∀ (depth : Int) (b0_ : PPz) (r : Pn (List Stmt) Int), f_b0 depth b0_ = some r → saysOf Tryz.prog 89 [.ptr 0 0, .v (.int .i64 depth)] [] [[⟨.v (encL 4 enc_Token b0_.tokens), none⟩, ⟨.v (.int .i64 b0_.at_), none⟩]] (Pn.on r (fun za zb => .ret (.v (encL 13 enc_Stmt za)) (some 79)) (fun zx zb => .pan zx)) (Pn.on r (fun za zb => [[⟨.v (encL 4 enc_Token b0_.tokens), none⟩, ⟨.v (.int .i64 zb), none⟩]]) (fun zx zb => [[⟨.v (encL 4 enc_Token b0_.tokens), none⟩, ⟨.v (.int .i64 zb), none⟩]]))) (i_i0 : ∀ (depth : Int) (b0_ : PPz) (r : Pn Stmt Int), f_i0 depth b0_ = some r → saysOf Tryz.prog 134 [.ptr 0 0, .v (.int .i64 depth)] [] [[⟨.v (encL 4 enc_Token b0_.tokens), none⟩, ⟨.v (.int .i64 b0_.at_), none⟩]] (Pn.on r (fun za zb => .ret (.v (.agg [.int .i64 za.Op, .str za.Name, .int .i64 za.Max, .int .i64 za.A.Op, .int .i64 za.A.N, .str za.A.S, encL 4 enc_Expr za.A.Args, .int .i64 za.B.Op, .int .i64 za.B.N, .str za.B.S, encL 4 enc_Expr za.B.Args, encL 13 enc_Stmt za.Body, encL 13 enc_Stmt za.Else])) none) (fun zx zb => .pan zx)) (Pn.on r (fun za zb => [[⟨.v (encL 4 enc_Token b0_.tokens), none⟩, ⟨.v (.int .i64 zb), none⟩]]) (fun zx zb => [[⟨.v (encL 4 enc_Token b0_.tokens), none⟩, ⟨.v (.int .i64 zb), none⟩]]))) (i_n0 : ∀ (depth : Int) (b0_ : PPz) (r : Pn Stmt Int), f_n0 depth b0_ = some r → saysOf Tryz.prog 165 [.ptr 0 0, .v (.int .i64 depth)] [] [[⟨.v (encL 4 enc_Token b0_.tokens), none⟩, ⟨.v (.int .i64 b0_.at_), none⟩]] (Pn.on r (fun za zb => .ret (.v (.agg [.int .i64 za.Op, .str za.Name, .int .i64 za.Max, .int .i64 za.A.Op, .int .i64 za.A.N, .str za.A.S, encL 4 enc_Expr za.A.Args, .int .i64 za.B.Op, .int .i64 za.B.N, .str za.B.S, encL 4 enc_Expr za.B.Args, encL 13 enc_Stmt za.Body, encL 13 enc_Stmt za.Else])) none) (fun zx zb => .pan zx)) (Pn.on r (fun za zb => [[⟨.v (encL 4 enc_Token b0_.tokens), none⟩, ⟨.v (.int .i64 zb), none⟩]]) (fun zx zb => [[⟨.v (encL 4 enc_Token b0_.tokens), none⟩, ⟨.v (.int .i64 zb), none⟩]]))) (depth : Int) (b0_ : PPz) (r : Pn (List Stmt) Int) (h : B_b0 n f_b0 f_i0 f_n0 depth b0_ = some r) : saysOf Tryz.prog 89 [.ptr 0 0, .v (.int .i64 depth)] [] [[⟨.v (encL 4 enc_Token b0_.tokens), none⟩, ⟨.v (.int .i64 b0_.at_), none⟩]] (Pn.on r (fun za zb => .ret (.v (encL 13 enc_Stmt za)) (some 79)) (fun zx zb => .pan zx)) (Pn.on r (fun za zb => [[⟨.v (encL 4 enc_Token b0_.tokens), none⟩, ⟨.v (.int .i64 zb), none⟩]]) (fun zx zb => [[⟨.v (encL 4 enc_Token b0_.tokens), none⟩, ⟨.v (.int .i64 zb), none⟩]])) := by
 refine sw_ tt_ok Tryz.func89 rfl rfl rfl ?_
 unfold B_b0 at h
 refine AWp.seq (AWp.rg tt_ok [] (by kernel_rfl) all_nil ?_)
 refine AE.tn_ (AWp.cut (fun st' => restr [0, 1] [0] 1 st'.env st'.H st'.nxt = some ⟨[(0, ⟨.ptr 0 0, none⟩), (1, ⟨.v (.int .i64 depth), none⟩)], [(0, [⟨.v (encL 4 enc_Token b0_.tokens), none⟩, ⟨.v (.int .i64 b0_.at_), none⟩])], 1⟩ ∧ F_b0_j1 n f_b0 f_i0 f_n0 depth b0_ = some r) ?_ ?_)
 ·refine AWp.seq ?_
  obtain ⟨r1, hr1, h⟩ := bind_some h
  have pr1 := c_be0 n ([123] : List UInt8) b0_ _ hr1
  refine AWp.rg tt_ok [orn pr1 []] (by kernel_rfl) (all_cons pr1 all_nil) ?_
  refine AE.tn_ (AWp.cnd h (by kernel_rfl) ?_ ?_) <;> clear h <;> intro h
  ·obtain ⟨r2, hr2, h⟩ := bind_some h
   cases r2 with
   | ret r3 r4 =>
    have pr2 := c_w0 n 2 b0_ _ hr2
    refine AWp.rg tt_ok [orn pr2 []] (by kernel_rfl) (all_cons pr2 all_nil) ?_
    exact AE.tn_ ⟨by kernel_rfl, h⟩
   | pan x5 r4 =>
    have pr2 := c_w0 n 2 b0_ _ hr2
    refine AWp.rgP tt_ok [orn pr2 []] (x := x5) (by kernel_rfl) (all_cons pr2 all_nil) ?_
    obtain rfl := Option.some.inj h
    exact AE.then_pan (post_pan (by kernel_rfl))
  ·exact AWp.skip (AE.tn_ ⟨by kernel_rfl, h⟩)
 ·clear h
  rintro st' ⟨hr', h⟩
  refine AWp.drop _ _ _ hr' (by kernel_rfl) ?_
  clear hr' st'
  unfold F_b0_j1 at h
  refine AWp.seq ?_
  obtain ⟨r6, hr6, h⟩ := bind_some h
  cases r6 with
  | ret r7 r8 =>
   have pr6 := c_m0 n ([123] : List UInt8) b0_ _ hr6
   refine AWp.rg tt_ok [orc pr6 []] (by kernel_rfl) (all_cons pr6 all_nil) ?_
   refine AE.tn_ (AWp.seq (AWp.rg tt_ok [] (by kernel_rfl) all_nil ?_))
   refine AE.tn_ (AWp.cut (fun st' => ∃ (v28 : Int) (v29 : List Stmt), restr [5] [0] 1 st'.env st'.H st'.nxt = some ⟨[(5, ⟨.v (encL 13 enc_Stmt v29), (some 79)⟩)], [(0, [⟨.v (encL 4 enc_Token b0_.tokens), none⟩, ⟨.v (.int .i64 v28), none⟩])], 1⟩ ∧ F_b0_j2 n f_b0 f_i0 f_n0 b0_ v28 v29 = some r) ?_ ?_)
   ·refine AWp.block (AWp.loop (σ := Int × (List Stmt)) (fun zm zs zst => restr [0, 1, 5] [0] 1 zst.env zst.H zst.nxt = some ⟨[(0, ⟨.ptr 0 0, none⟩), (1, ⟨.v (.int .i64 depth), none⟩), (5, ⟨.v (encL 13 enc_Stmt zs.2), (some 79)⟩)], [(0, [⟨.v (encL 4 enc_Token b0_.tokens), none⟩, ⟨.v (.int .i64 zs.1), none⟩])], 1⟩ ∧ F_b0_l3 n f_b0 f_i0 f_n0 depth b0_ zm zs.1 zs.2 = some r) ?_ (n := n) (s := (r8, ([] : List Stmt))) ⟨by kernel_rfl, h⟩)
    clear h
    rintro m3 ⟨v18, v19⟩ st' ⟨hr', h⟩
    cases m3 with
    | zero =>
     have h2 : (none : Option _) = some r := h
     cases h2
    | succ m3 =>
     refine ⟨m3, rfl, AWp.drop _ _ _ hr' (by kernel_rfl) ?_⟩
     clear hr' st'
     replace h : F_b0_b3 n f_b0 f_i0 f_n0 depth b0_ (F_b0_l3 n f_b0 f_i0 f_n0 depth b0_ m3) v18 v19 = some r := h
     unfold F_b0_b3 at h
     refine AWp.seq (AWp.seq ?_)
     obtain ⟨r20, hr20, h⟩ := bind_some h
     have pr20 := c_u0 n ([125] : List UInt8) (⟨b0_.tokens, v18⟩ : PPz) _ hr20
     refine AWp.rg tt_ok [orc pr20 []] (by kernel_rfl) (all_cons pr20 all_nil) ?_
     refine AE.tn_ (AWp.cnd h (by kernel_rfl) ?_ ?_) <;> clear h <;> intro h
     ·refine AWp.skip (AE.tn_ (AWp.block ?_))
      obtain ⟨r21, hr21, h⟩ := bind_some h
      cases r21 with
      | ret r22 r23 =>
       have pr21 := i_i0 (IntKind.i64.wrap (depth + 1)) (⟨b0_.tokens, r20.2⟩ : PPz) _ hr21
       obtain ⟨g25, h⟩ := ass_some h
       refine AWp.rg tt_ok [orc pr21 [], .val (encL 13 enc_Stmt ([r22] : List Stmt)), .val (encL 13 enc_Stmt (v19 ++ ([r22] : List Stmt)))] (by kernel_rfl) (all_cons (vimp_app (k := 13) (e := enc_Stmt) v19 ([r22] : List Stmt)) (all_cons g25 (all_cons (vimp_lit2 (k := 13) (e := enc_Stmt) (xs := [.agg [.int .i64 r22.Op, .str r22.Name, .int .i64 r22.Max, .int .i64 r22.A.Op, .int .i64 r22.A.N, .str r22.A.S, encL 4 enc_Expr r22.A.Args, .int .i64 r22.B.Op, .int .i64 r22.B.N, .str r22.B.S, encL 4 enc_Expr r22.B.Args, encL 13 enc_Stmt r22.Body, encL 13 enc_Stmt r22.Else]]) (l := ([r22] : List Stmt)) (AllV.cons (rev_Stmt r22) (AllV.nil)) 1 rfl) (all_cons pr21 all_nil)))) ?_
       exact AE.bn_ (AE.tn_ ⟨(r23, (v19 ++ ([r22] : List Stmt))), by kernel_rfl, h⟩)
      | pan x24 r23 =>
       have pr21 := i_i0 (IntKind.i64.wrap (depth + 1)) (⟨b0_.tokens, r20.2⟩ : PPz) _ hr21
       refine AWp.rgP tt_ok [orc pr21 []] (x := x24) (by kernel_rfl) (all_cons pr21 all_nil) ?_
       obtain rfl := Option.some.inj h
       exact AE.block_pan (AE.then_pan (AE.block_pan (AE.then_pan (post_pan (by kernel_rfl)))))
     ·refine AWp.exit ?_
      exact AE.tx_ (AE.tx_ (AE.block_hit (AE.tn_ ⟨r20.2, v19, by kernel_rfl, h⟩)))
   ·clear h
    rintro st' ⟨v28, v29, hr', h⟩
    refine AWp.drop _ _ _ hr' (by kernel_rfl) ?_
    clear hr' st'
    unfold F_b0_j2 at h
    refine AWp.seq (AWp.rg tt_ok [] (by kernel_rfl) all_nil ?_)
    refine AE.tn_ (AWp.ret ?_)
    obtain rfl := Option.some.inj h
    exact post_ret (by kernel_rfl)
  | pan x9 r8 =>
   have pr6 := c_m0 n ([123] : List UInt8) b0_ _ hr6
   refine AWp.rgP tt_ok [orc pr6 []] (x := x9) (by kernel_rfl) (all_cons pr6 all_nil) ?_
   obtain rfl := Option.some.inj h
   exact AE.then_pan (post_pan (by kernel_rfl))
end Go.Ab.Y
