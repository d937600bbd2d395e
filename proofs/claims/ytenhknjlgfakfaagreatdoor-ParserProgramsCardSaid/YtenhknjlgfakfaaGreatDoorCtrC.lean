/- Each function does what its plain function says. Printed by a program. -/
import Derived.Test.YtenhknjlgfakfaaGreatDoorCtrB
/- Printed by gen.py. -/
namespace Go.Ab.Y
open Go Go.Ab Go.Proofs
set_option linter.unusedVariables false
set_option maxRecDepth 20000
set_option linter.unusedVariables false
theorem cB_ref08_walkExpr (n : Nat) (f_t0 : (List Vz8) → Expr → Bool → Option (List Vz8)) (i_t0 : ∀ (out : List Vz8) (e : Expr) (root : Bool) (r : (List Vz8)), f_t0 out e root = some r → saysOf Tryz.prog 171 [.v (encL 20 enc_Vz8 out), .v (.agg [.int .i64 e.Op, .int .i64 e.N, .str e.S, encL 4 enc_Expr e.Args]), .v (.bool root)] [(0, 138)] [] (.ret (.v (encL 20 enc_Vz8 r)) (some 138)) []) (out : List Vz8) (e : Expr) (root : Bool) (r : (List Vz8)) (h : B_t0 n f_t0 out e root = some r) : saysOf Tryz.prog 171 [.v (encL 20 enc_Vz8 out), .v (.agg [.int .i64 e.Op, .int .i64 e.N, .str e.S, encL 4 enc_Expr e.Args]), .v (.bool root)] [(0, 138)] [] (.ret (.v (encL 20 enc_Vz8 r)) (some 138)) [] := by
 refine sw_ tt_ok Tryz.func171 rfl rfl rfl ?_
 unfold B_t0 at h
 refine AWp.seq ?_
 refine AWp.rg tt_ok [] (by kernel_rfl) all_nil ?_
 refine AE.tn_ ?_
 refine AWp.seq ?_
 refine AWp.seq ?_
 refine AWp.rg tt_ok [] (by kernel_rfl) all_nil ?_
 refine AE.tn_ ?_
 refine AWp.cnd h (by kernel_rfl) ?_ ?_ <;> clear h <;> intro h
 ·refine AWp.seq ?_
  refine AWp.rg tt_ok [] (by kernel_rfl) all_nil ?_
  refine AE.tn_ ?_
  refine AWp.ret ?_
  obtain rfl := Option.some.inj h
  exact AE.tr_ (post_ret (by kernel_rfl))
 ·refine AWp.skip ?_
  refine AE.tn_ ?_
  refine AWp.seq ?_
  obtain ⟨g2, h⟩ := ass_some h
  refine AWp.rg tt_ok [.val (encL 20 enc_Vz8 ([(⟨false, (⟨0, ([] : List UInt8), 0, (⟨0, 0, ([] : List UInt8), ([] : List Expr)⟩ : Expr), (⟨0, 0, ([] : List UInt8), ([] : List Expr)⟩ : Expr), ([] : List Stmt), ([] : List Stmt)⟩ : Stmt), 0, e, root⟩ : Vz8)] : List Vz8)), .val (encL 20 enc_Vz8 (out ++ ([(⟨false, (⟨0, ([] : List UInt8), 0, (⟨0, 0, ([] : List UInt8), ([] : List Expr)⟩ : Expr), (⟨0, 0, ([] : List UInt8), ([] : List Expr)⟩ : Expr), ([] : List Stmt), ([] : List Stmt)⟩ : Stmt), 0, e, root⟩ : Vz8)] : List Vz8)))] (by kernel_rfl) (all_cons (vimp_app (k := 20) (e := enc_Vz8) out ([(⟨false, (⟨0, ([] : List UInt8), 0, (⟨0, 0, ([] : List UInt8), ([] : List Expr)⟩ : Expr), (⟨0, 0, ([] : List UInt8), ([] : List Expr)⟩ : Expr), ([] : List Stmt), ([] : List Stmt)⟩ : Stmt), 0, e, root⟩ : Vz8)] : List Vz8)) (all_cons g2 (all_cons (vimp_litm (k := 20) (e := enc_Vz8) ([(⟨false, (⟨0, ([] : List UInt8), 0, (⟨0, 0, ([] : List UInt8), ([] : List Expr)⟩ : Expr), (⟨0, 0, ([] : List UInt8), ([] : List Expr)⟩ : Expr), ([] : List Stmt), ([] : List Stmt)⟩ : Stmt), 0, e, root⟩ : Vz8)] : List Vz8)) all_nil))) ?_
  refine AE.tn_ ?_
  refine AWp.cut (fun st' => ∃ (v13 : List Vz8), restr [0] [] 0 st'.env st'.H st'.nxt = some ⟨[(0, ⟨.v (encL 20 enc_Vz8 v13), (some 138)⟩)], [], 0⟩ ∧ F_t0_j1 n f_t0 v13 = some r) ?_ ?_
  ·refine AWp.seq ?_
   refine AWp.rg tt_ok [] (by kernel_rfl) all_nil ?_
   refine AE.tn_ ?_
   refine AWp.block ?_
   refine AWp.loop (σ := (List Vz8) × Int) (fun zm zs zst => restr [0, 4, 7] [0] 1 zst.env zst.H zst.nxt = some ⟨[(0, ⟨.v (encL 20 enc_Vz8 zs.1), (some 138)⟩), (4, ⟨.ptr 0 0, none⟩), (7, ⟨.v (.int .i64 zs.2), none⟩)], [(0, [⟨.v (.int .i64 e.Op), none⟩, ⟨.v (.int .i64 e.N), none⟩, ⟨.v (.str e.S), none⟩, ⟨.v (encL 4 enc_Expr e.Args), none⟩])], 1⟩ ∧ F_t0_l2 n f_t0 e zm zs.1 zs.2 = some r) ?_ (n := n) (s := ((out ++ ([(⟨false, (⟨0, ([] : List UInt8), 0, (⟨0, 0, ([] : List UInt8), ([] : List Expr)⟩ : Expr), (⟨0, 0, ([] : List UInt8), ([] : List Expr)⟩ : Expr), ([] : List Stmt), ([] : List Stmt)⟩ : Stmt), 0, e, root⟩ : Vz8)] : List Vz8)), 0)) ⟨by kernel_rfl, h⟩
   clear h
   rintro m2 ⟨v7, v8⟩ st' ⟨hr', h⟩
   cases m2 with
   | zero =>
    have h2 : (none : Option _) = some r := h
    cases h2
   | succ m2 =>
    refine ⟨m2, rfl, AWp.drop _ _ _ hr' (by kernel_rfl) ?_⟩
    clear hr' st'
    replace h : F_t0_b2 n f_t0 e (F_t0_l2 n f_t0 e m2) v7 v8 = some r := h
    unfold F_t0_b2 at h
    refine AWp.seq ?_
    refine AWp.seq ?_
    refine AWp.rg tt_ok [] (by kernel_rfl) all_nil ?_
    refine AE.tn_ ?_
    refine AWp.cnd h (by kernel_rfl) ?_ ?_ <;> clear h <;> intro h
    ·refine AWp.skip ?_
     refine AE.tn_ ?_
     refine AWp.seq ?_
     refine AWp.block ?_
     obtain ⟨g9, h⟩ := ass_some h
     obtain ⟨r10, hr10, h⟩ := bind_some h
     have pr10 := i_t0 v7 (e.Args.getD (v8).toNat default) false _ hr10
     refine AWp.rg tt_ok [.own, orv (enc_vimp_Expr (e.Args.getD (v8).toNat default)), orn pr10 [0]] (by kernel_rfl) (all_cons pr10 (all_cons (enc_vimp_Expr (e.Args.getD (v8).toNat default)) (all_cons g9 all_nil))) ?_
     refine AE.bn_ (AE.tn_ ?_)
     refine AWp.rg tt_ok [] (by kernel_rfl) all_nil ?_
     exact AE.tn_ ⟨(r10, (IntKind.i64.wrap (v8 + 1))), by kernel_rfl, h⟩
    ·refine AWp.exit ?_
     exact AE.tx_ (AE.tx_ (AE.block_hit (AE.tn_ ⟨v7, by kernel_rfl, h⟩)))
  ·clear h
   rintro st' ⟨v13, hr', h⟩
   refine AWp.drop _ _ _ hr' (by kernel_rfl) ?_
   clear hr' st'
   unfold F_t0_j1 at h
   refine AWp.seq ?_
   refine AWp.rg tt_ok [] (by kernel_rfl) all_nil ?_
   refine AE.tn_ ?_
   refine AWp.ret ?_
   obtain rfl := Option.some.inj h
   exact post_ret (by kernel_rfl)
theorem c_t0 (n : Nat) : ∀ (out : List Vz8) (e : Expr) (root : Bool) (r : (List Vz8)), F_t0 n out e root = some r → saysOf Tryz.prog 171 [.v (encL 20 enc_Vz8 out), .v (.agg [.int .i64 e.Op, .int .i64 e.N, .str e.S, encL 4 enc_Expr e.Args]), .v (.bool root)] [(0, 138)] [] (.ret (.v (encL 20 enc_Vz8 r)) (some 138)) [] := by
 induction n with
 | zero => intro out e root r h; have h2 : (none : Option _) = some r := h; cases h2
 | succ m ih => intro out e root r h; exact cB_ref08_walkExpr m (F_t0 m) ih out e root r h
theorem cB_ref08_walkBody (n : Nat) (f_g0 : (List Vz8) → (List Stmt) → Int → Option (List Vz8)) (i_g0 : ∀ (out : List Vz8) (l : List Stmt) (depth : Int) (r : (List Vz8)), f_g0 out l depth = some r → saysOf Tryz.prog 138 [.v (encL 20 enc_Vz8 out), .v (encL 13 enc_Stmt l), .v (.int .i64 depth)] [(0, 138)] [] (.ret (.v (encL 20 enc_Vz8 r)) (some 138)) []) (out : List Vz8) (l : List Stmt) (depth : Int) (r : (List Vz8)) (h : B_g0 n f_g0 out l depth = some r) : saysOf Tryz.prog 138 [.v (encL 20 enc_Vz8 out), .v (encL 13 enc_Stmt l), .v (.int .i64 depth)] [(0, 138)] [] (.ret (.v (encL 20 enc_Vz8 r)) (some 138)) [] := by
 refine sw_ tt_ok Tryz.func138 rfl rfl rfl ?_
 unfold B_g0 at h
 refine AWp.seq ?_
 refine AWp.rg tt_ok [] (by kernel_rfl) all_nil ?_
 refine AE.tn_ ?_
 refine AWp.cut (fun st' => ∃ (v41 : List Vz8), restr [0] [] 0 st'.env st'.H st'.nxt = some ⟨[(0, ⟨.v (encL 20 enc_Vz8 v41), (some 138)⟩)], [], 0⟩ ∧ F_g0_j1 n f_g0 v41 = some r) ?_ ?_
 ·refine AWp.seq ?_
  refine AWp.rg tt_ok [] (by kernel_rfl) all_nil ?_
  refine AE.tn_ ?_
  refine AWp.block ?_
  refine AWp.loop (σ := (List Vz8) × Int) (fun zm zs zst => restr [0, 1, 2, 7] [] 0 zst.env zst.H zst.nxt = some ⟨[(0, ⟨.v (encL 20 enc_Vz8 zs.1), (some 138)⟩), (1, ⟨.v (encL 13 enc_Stmt l), none⟩), (2, ⟨.v (.int .i64 depth), none⟩), (7, ⟨.v (.int .i64 zs.2), none⟩)], [], 0⟩ ∧ F_g0_l2 n f_g0 l depth zm zs.1 zs.2 = some r) ?_ (n := n) (s := (out, 0)) ⟨by kernel_rfl, h⟩
  clear h
  rintro m2 ⟨v20, v21⟩ st' ⟨hr', h⟩
  cases m2 with
  | zero =>
   have h2 : (none : Option _) = some r := h
   cases h2
  | succ m2 =>
   refine ⟨m2, rfl, AWp.drop _ _ _ hr' (by kernel_rfl) ?_⟩
   clear hr' st'
   replace h : F_g0_b2 n f_g0 l depth (F_g0_l2 n f_g0 l depth m2) v20 v21 = some r := h
   unfold F_g0_b2 at h
   refine AWp.seq ?_
   refine AWp.seq ?_
   refine AWp.rg tt_ok [] (by kernel_rfl) all_nil ?_
   refine AE.tn_ ?_
   refine AWp.cnd h (by kernel_rfl) ?_ ?_ <;> clear h <;> intro h
   ·refine AWp.skip ?_
    refine AE.tn_ ?_
    refine AWp.cut (fun st' => ∃ (v38 : List Vz8), restr [0, 1, 2, 7] [] 0 st'.env st'.H st'.nxt = some ⟨[(0, ⟨.v (encL 20 enc_Vz8 v38), (some 138)⟩), (1, ⟨.v (encL 13 enc_Stmt l), none⟩), (2, ⟨.v (.int .i64 depth), none⟩), (7, ⟨.v (.int .i64 v21), none⟩)], [], 0⟩ ∧ F_g0_j3 n f_g0 (F_g0_l2 n f_g0 l depth m2) l depth v21 v38 = some r) ?_ ?_
    ·refine AWp.block ?_
     refine AWp.seq ?_
     obtain ⟨g22, h⟩ := ass_some h
     obtain ⟨g23, h⟩ := ass_some h
     refine AWp.rg tt_ok [orv (enc_vimp_Stmt (l.getD (v21).toNat default)), .val (encL 20 enc_Vz8 ([(⟨true, (⟨(l.getD (v21).toNat default).Op, (l.getD (v21).toNat default).Name, (l.getD (v21).toNat default).Max, (⟨((l.getD (v21).toNat default).A).Op, ((l.getD (v21).toNat default).A).N, ((l.getD (v21).toNat default).A).S, ((l.getD (v21).toNat default).A).Args⟩ : Expr), (⟨((l.getD (v21).toNat default).B).Op, ((l.getD (v21).toNat default).B).N, ((l.getD (v21).toNat default).B).S, ((l.getD (v21).toNat default).B).Args⟩ : Expr), (l.getD (v21).toNat default).Body, (l.getD (v21).toNat default).Else⟩ : Stmt), depth, (⟨0, 0, ([] : List UInt8), ([] : List Expr)⟩ : Expr), false⟩ : Vz8)] : List Vz8)), .val (encL 20 enc_Vz8 (v20 ++ ([(⟨true, (⟨(l.getD (v21).toNat default).Op, (l.getD (v21).toNat default).Name, (l.getD (v21).toNat default).Max, (⟨((l.getD (v21).toNat default).A).Op, ((l.getD (v21).toNat default).A).N, ((l.getD (v21).toNat default).A).S, ((l.getD (v21).toNat default).A).Args⟩ : Expr), (⟨((l.getD (v21).toNat default).B).Op, ((l.getD (v21).toNat default).B).N, ((l.getD (v21).toNat default).B).S, ((l.getD (v21).toNat default).B).Args⟩ : Expr), (l.getD (v21).toNat default).Body, (l.getD (v21).toNat default).Else⟩ : Stmt), depth, (⟨0, 0, ([] : List UInt8), ([] : List Expr)⟩ : Expr), false⟩ : Vz8)] : List Vz8)))] (by kernel_rfl) (all_cons (vimp_app (k := 20) (e := enc_Vz8) v20 ([(⟨true, (⟨(l.getD (v21).toNat default).Op, (l.getD (v21).toNat default).Name, (l.getD (v21).toNat default).Max, (⟨((l.getD (v21).toNat default).A).Op, ((l.getD (v21).toNat default).A).N, ((l.getD (v21).toNat default).A).S, ((l.getD (v21).toNat default).A).Args⟩ : Expr), (⟨((l.getD (v21).toNat default).B).Op, ((l.getD (v21).toNat default).B).N, ((l.getD (v21).toNat default).B).S, ((l.getD (v21).toNat default).B).Args⟩ : Expr), (l.getD (v21).toNat default).Body, (l.getD (v21).toNat default).Else⟩ : Stmt), depth, (⟨0, 0, ([] : List UInt8), ([] : List Expr)⟩ : Expr), false⟩ : Vz8)] : List Vz8)) (all_cons g23 (all_cons (vimp_litm (k := 20) (e := enc_Vz8) ([(⟨true, (⟨(l.getD (v21).toNat default).Op, (l.getD (v21).toNat default).Name, (l.getD (v21).toNat default).Max, (⟨((l.getD (v21).toNat default).A).Op, ((l.getD (v21).toNat default).A).N, ((l.getD (v21).toNat default).A).S, ((l.getD (v21).toNat default).A).Args⟩ : Expr), (⟨((l.getD (v21).toNat default).B).Op, ((l.getD (v21).toNat default).B).N, ((l.getD (v21).toNat default).B).S, ((l.getD (v21).toNat default).B).Args⟩ : Expr), (l.getD (v21).toNat default).Body, (l.getD (v21).toNat default).Else⟩ : Stmt), depth, (⟨0, 0, ([] : List UInt8), ([] : List Expr)⟩ : Expr), false⟩ : Vz8)] : List Vz8)) (all_cons (enc_vimp_Stmt (l.getD (v21).toNat default)) (all_cons g22 all_nil))))) ?_
     refine AE.tn_ ?_
     refine AWp.cut (fun st' => ∃ (v28 : List Vz8), restr [0, 1, 2, 7] [] 0 st'.env st'.H st'.nxt = some ⟨[(0, ⟨.v (encL 20 enc_Vz8 v28), (some 138)⟩), (1, ⟨.v (encL 13 enc_Stmt l), none⟩), (2, ⟨.v (.int .i64 depth), none⟩), (7, ⟨.v (.int .i64 v21), none⟩)], [], 0⟩ ∧ F_g0_j4 n f_g0 (F_g0_l2 n f_g0 l depth m2) l depth v21 v28 = some r) ?_ ?_
     ·refine AWp.seq ?_
      obtain ⟨g24, h⟩ := ass_some h
      obtain ⟨r25, hr25, h⟩ := bind_some h
      have pr25 := c_bx0 n ((l.getD (v21).toNat default).A) _ hr25
      refine AWp.rg tt_ok [orv (enc_vimp_Stmt (l.getD (v21).toNat default)), orn pr25 []] (by kernel_rfl) (all_cons pr25 (all_cons (enc_vimp_Stmt (l.getD (v21).toNat default)) (all_cons g24 all_nil))) ?_
      refine AE.tn_ ?_
      refine AWp.cnd h (by kernel_rfl) ?_ ?_ <;> clear h <;> intro h
      ·obtain ⟨g26, h⟩ := ass_some h
       obtain ⟨r27, hr27, h⟩ := bind_some h
       have pr27 := c_t0 n (v20 ++ ([(⟨true, (⟨(l.getD (v21).toNat default).Op, (l.getD (v21).toNat default).Name, (l.getD (v21).toNat default).Max, (⟨((l.getD (v21).toNat default).A).Op, ((l.getD (v21).toNat default).A).N, ((l.getD (v21).toNat default).A).S, ((l.getD (v21).toNat default).A).Args⟩ : Expr), (⟨((l.getD (v21).toNat default).B).Op, ((l.getD (v21).toNat default).B).N, ((l.getD (v21).toNat default).B).S, ((l.getD (v21).toNat default).B).Args⟩ : Expr), (l.getD (v21).toNat default).Body, (l.getD (v21).toNat default).Else⟩ : Stmt), depth, (⟨0, 0, ([] : List UInt8), ([] : List Expr)⟩ : Expr), false⟩ : Vz8)] : List Vz8)) ((l.getD (v21).toNat default).A) true _ hr27
       refine AWp.rg tt_ok [.own, orv (enc_vimp_Stmt (l.getD (v21).toNat default)), orn pr27 [0]] (by kernel_rfl) (all_cons pr27 (all_cons (enc_vimp_Stmt (l.getD (v21).toNat default)) (all_cons g26 all_nil))) ?_
       exact AE.tn_ ⟨r27, by kernel_rfl, h⟩
      ·refine AWp.skip ?_
       exact AE.tn_ ⟨(v20 ++ ([(⟨true, (⟨(l.getD (v21).toNat default).Op, (l.getD (v21).toNat default).Name, (l.getD (v21).toNat default).Max, (⟨((l.getD (v21).toNat default).A).Op, ((l.getD (v21).toNat default).A).N, ((l.getD (v21).toNat default).A).S, ((l.getD (v21).toNat default).A).Args⟩ : Expr), (⟨((l.getD (v21).toNat default).B).Op, ((l.getD (v21).toNat default).B).N, ((l.getD (v21).toNat default).B).S, ((l.getD (v21).toNat default).B).Args⟩ : Expr), (l.getD (v21).toNat default).Body, (l.getD (v21).toNat default).Else⟩ : Stmt), depth, (⟨0, 0, ([] : List UInt8), ([] : List Expr)⟩ : Expr), false⟩ : Vz8)] : List Vz8)), by kernel_rfl, h⟩
     ·clear h
      rintro st' ⟨v28, hr', h⟩
      refine AWp.drop _ _ _ hr' (by kernel_rfl) ?_
      clear hr' st'
      unfold F_g0_j4 at h
      refine AWp.cut (fun st' => ∃ (v33 : List Vz8), restr [0, 1, 2, 7] [] 0 st'.env st'.H st'.nxt = some ⟨[(0, ⟨.v (encL 20 enc_Vz8 v33), (some 138)⟩), (1, ⟨.v (encL 13 enc_Stmt l), none⟩), (2, ⟨.v (.int .i64 depth), none⟩), (7, ⟨.v (.int .i64 v21), none⟩)], [], 0⟩ ∧ F_g0_j5 n f_g0 (F_g0_l2 n f_g0 l depth m2) l depth v21 v33 = some r) ?_ ?_
      ·refine AWp.seq ?_
       obtain ⟨g29, h⟩ := ass_some h
       obtain ⟨r30, hr30, h⟩ := bind_some h
       have pr30 := c_bx0 n ((l.getD (v21).toNat default).B) _ hr30
       refine AWp.rg tt_ok [orv (enc_vimp_Stmt (l.getD (v21).toNat default)), orn pr30 []] (by kernel_rfl) (all_cons pr30 (all_cons (enc_vimp_Stmt (l.getD (v21).toNat default)) (all_cons g29 all_nil))) ?_
       refine AE.tn_ ?_
       refine AWp.cnd h (by kernel_rfl) ?_ ?_ <;> clear h <;> intro h
       ·obtain ⟨g31, h⟩ := ass_some h
        obtain ⟨r32, hr32, h⟩ := bind_some h
        have pr32 := c_t0 n v28 ((l.getD (v21).toNat default).B) true _ hr32
        refine AWp.rg tt_ok [.own, orv (enc_vimp_Stmt (l.getD (v21).toNat default)), orn pr32 [0]] (by kernel_rfl) (all_cons pr32 (all_cons (enc_vimp_Stmt (l.getD (v21).toNat default)) (all_cons g31 all_nil))) ?_
        exact AE.tn_ ⟨r32, by kernel_rfl, h⟩
       ·refine AWp.skip ?_
        exact AE.tn_ ⟨v28, by kernel_rfl, h⟩
      ·clear h
       rintro st' ⟨v33, hr', h⟩
       refine AWp.drop _ _ _ hr' (by kernel_rfl) ?_
       clear hr' st'
       unfold F_g0_j5 at h
       refine AWp.seq ?_
       obtain ⟨g34, h⟩ := ass_some h
       obtain ⟨r35, hr35, h⟩ := bind_some h
       have pr35 := i_g0 v33 ((l.getD (v21).toNat default).Body) (IntKind.i64.wrap (depth + 1)) _ hr35
       refine AWp.rg tt_ok [.own, orv (enc_vimp_Stmt (l.getD (v21).toNat default)), orn pr35 [0]] (by kernel_rfl) (all_cons pr35 (all_cons (enc_vimp_Stmt (l.getD (v21).toNat default)) (all_cons g34 all_nil))) ?_
       refine AE.tn_ ?_
       obtain ⟨g36, h⟩ := ass_some h
       obtain ⟨r37, hr37, h⟩ := bind_some h
       have pr37 := i_g0 r35 ((l.getD (v21).toNat default).Else) (IntKind.i64.wrap (depth + 1)) _ hr37
       refine AWp.rg tt_ok [.own, orv (enc_vimp_Stmt (l.getD (v21).toNat default)), orn pr37 [0]] (by kernel_rfl) (all_cons pr37 (all_cons (enc_vimp_Stmt (l.getD (v21).toNat default)) (all_cons g36 all_nil))) ?_
       exact AE.bn_ (AE.tn_ ⟨r37, by kernel_rfl, h⟩)
    ·clear h
     rintro st' ⟨v38, hr', h⟩
     refine AWp.drop _ _ _ hr' (by kernel_rfl) ?_
     clear hr' st'
     unfold F_g0_j3 at h
     refine AWp.rg tt_ok [] (by kernel_rfl) all_nil ?_
     exact AE.tn_ ⟨(v38, (IntKind.i64.wrap (v21 + 1))), by kernel_rfl, h⟩
   ·refine AWp.exit ?_
    exact AE.tx_ (AE.tx_ (AE.block_hit (AE.tn_ ⟨v20, by kernel_rfl, h⟩)))
 ·clear h
  rintro st' ⟨v41, hr', h⟩
  refine AWp.drop _ _ _ hr' (by kernel_rfl) ?_
  clear hr' st'
  unfold F_g0_j1 at h
  refine AWp.seq ?_
  refine AWp.rg tt_ok [] (by kernel_rfl) all_nil ?_
  refine AE.tn_ ?_
  refine AWp.ret ?_
  obtain rfl := Option.some.inj h
  exact post_ret (by kernel_rfl)
theorem c_g0 (n : Nat) : ∀ (out : List Vz8) (l : List Stmt) (depth : Int) (r : (List Vz8)), F_g0 n out l depth = some r → saysOf Tryz.prog 138 [.v (encL 20 enc_Vz8 out), .v (encL 13 enc_Stmt l), .v (.int .i64 depth)] [(0, 138)] [] (.ret (.v (encL 20 enc_Vz8 r)) (some 138)) [] := by
 induction n with
 | zero => intro out l depth r h; have h2 : (none : Option _) = some r := h; cases h2
 | succ m ih => intro out l depth r h; exact cB_ref08_walkBody m (F_g0 m) ih out l depth r h
theorem c_dq0 (n : Nat) (p : Proc) (r : (List Vz8)) (h : F_dq0 n p = some r) : saysOf Tryz.prog 96 [.v (.agg [.str p.Name, encL 2 enc_Param p.Params, encL 13 enc_Stmt p.Body])] [] [] (.ret (.v (encL 20 enc_Vz8 r)) (some 138)) [] := by
 refine sw_ tt_ok Tryz.func96 rfl rfl rfl ?_
 unfold F_dq0 at h
 refine AWp.seq ?_
 refine AWp.rg tt_ok [] (by kernel_rfl) all_nil ?_
 refine AE.tn_ ?_
 refine AWp.seq ?_
 obtain ⟨r1, hr1, h⟩ := bind_some h
 have pr1 := c_g0 n ([] : List Vz8) p.Body 1 _ hr1
 refine AWp.rg tt_ok [orn pr1 [0]] (by kernel_rfl) (all_cons pr1 all_nil) ?_
 refine AE.tn_ ?_
 refine AWp.ret ?_
 obtain rfl := Option.some.inj h
 exact post_ret (by kernel_rfl)
theorem c_ad0 (n : Nat) (l : List Param) (r : Int) (h : F_ad0 n l = some r) : saysOf Tryz.prog 95 [.v (encL 2 enc_Param l)] [] [] (.ret (.v (.int .i64 r)) none) [] := by
 refine sw_ tt_ok Tryz.func95 rfl rfl rfl ?_
 unfold F_ad0 at h
 refine AWp.seq ?_
 refine AWp.rg tt_ok [] (by kernel_rfl) all_nil ?_
 refine AE.tn_ ?_
 refine AWp.seq ?_
 refine AWp.seq ?_
 refine AWp.rg tt_ok [] (by kernel_rfl) all_nil ?_
 refine AE.tn_ ?_
 refine AWp.cnd h (by kernel_rfl) ?_ ?_ <;> clear h <;> intro h
 ·refine AWp.seq ?_
  refine AWp.rg tt_ok [] (by kernel_rfl) all_nil ?_
  refine AE.tn_ ?_
  refine AWp.ret ?_
  obtain rfl := Option.some.inj h
  exact AE.tr_ (post_ret (by kernel_rfl))
 ·refine AWp.skip ?_
  refine AE.tn_ ?_
  refine AWp.cut (fun st' => restr [] [] 0 st'.env st'.H st'.nxt = some ⟨[], [], 0⟩ ∧ F_ad0_j1 n = some r) ?_ ?_
  ·refine AWp.seq ?_
   refine AWp.rg tt_ok [] (by kernel_rfl) all_nil ?_
   refine AE.tn_ ?_
   refine AWp.block ?_
   refine AWp.loop (σ := Int) (fun zm zs zst => restr [0, 3] [] 0 zst.env zst.H zst.nxt = some ⟨[(0, ⟨.v (encL 2 enc_Param l), none⟩), (3, ⟨.v (.int .i64 zs), none⟩)], [], 0⟩ ∧ F_ad0_l2 n l zm zs = some r) ?_ (n := n) (s := 0) ⟨by kernel_rfl, h⟩
   clear h
   rintro m2 v14 st' ⟨hr', h⟩
   cases m2 with
   | zero =>
    have h2 : (none : Option _) = some r := h
    cases h2
   | succ m2 =>
    refine ⟨m2, rfl, AWp.drop _ _ _ hr' (by kernel_rfl) ?_⟩
    clear hr' st'
    replace h : F_ad0_b2 n l (F_ad0_l2 n l m2) v14 = some r := h
    unfold F_ad0_b2 at h
    refine AWp.seq ?_
    refine AWp.seq ?_
    refine AWp.rg tt_ok [] (by kernel_rfl) all_nil ?_
    refine AE.tn_ ?_
    refine AWp.cnd h (by kernel_rfl) ?_ ?_ <;> clear h <;> intro h
    ·refine AWp.skip ?_
     refine AE.tn_ ?_
     refine AWp.cut (fun st' => restr [0, 3] [] 0 st'.env st'.H st'.nxt = some ⟨[(0, ⟨.v (encL 2 enc_Param l), none⟩), (3, ⟨.v (.int .i64 v14), none⟩)], [], 0⟩ ∧ F_ad0_j3 n (F_ad0_l2 n l m2) l v14 = some r) ?_ ?_
     ·refine AWp.block ?_
      refine AWp.seq ?_
      refine AWp.seq ?_
      obtain ⟨g15, h⟩ := ass_some h
      obtain ⟨r16, hr16, h⟩ := bind_some h
      have pr16 := c_bw0 n ((l.getD (v14).toNat default).Name) _ hr16
      refine AWp.rg tt_ok [.raw, orn pr16 []] (by kernel_rfl) (all_cons pr16 (all_cons g15 all_nil)) ?_
      refine AE.tn_ ?_
      refine AWp.cnd h (by kernel_rfl) ?_ ?_ <;> clear h <;> intro h
      ·refine AWp.seq ?_
       refine AWp.rg tt_ok [] (by kernel_rfl) all_nil ?_
       refine AE.tn_ ?_
       refine AWp.ret ?_
       obtain rfl := Option.some.inj h
       exact AE.tr_ (AE.br_ (AE.tr_ (AE.tr_ (AE.br_ (AE.tr_ (post_ret (by kernel_rfl)))))))
      ·refine AWp.skip ?_
       refine AE.tn_ ?_
       refine AWp.seq ?_
       refine AWp.seq ?_
       obtain ⟨g17, h⟩ := ass_some h
       obtain ⟨g18, h⟩ := ass_some h
       refine AWp.rg tt_ok [.raw, .raw] (by kernel_rfl) (all_cons (orF g18) (all_cons g17 all_nil)) ?_
       refine AE.tn_ ?_
       refine AWp.cnd h (by kernel_rfl) ?_ ?_ <;> clear h <;> intro h
       ·refine AWp.seq ?_
        refine AWp.rg tt_ok [] (by kernel_rfl) all_nil ?_
        refine AE.tn_ ?_
        refine AWp.ret ?_
        obtain rfl := Option.some.inj h
        exact AE.tr_ (AE.br_ (AE.tr_ (AE.tr_ (AE.br_ (AE.tr_ (post_ret (by kernel_rfl)))))))
       ·refine AWp.skip ?_
        refine AE.tn_ ?_
        refine AWp.seq ?_
        refine AWp.rg tt_ok [] (by kernel_rfl) all_nil ?_
        refine AE.tn_ ?_
        refine AWp.block ?_
        refine AWp.loop (σ := Int) (fun zm zs zst => restr [0, 3, 4] [] 0 zst.env zst.H zst.nxt = some ⟨[(0, ⟨.v (encL 2 enc_Param l), none⟩), (3, ⟨.v (.int .i64 v14), none⟩), (4, ⟨.v (.int .i64 zs), none⟩)], [], 0⟩ ∧ F_ad0_l4 n (F_ad0_l2 n l m2) l v14 zm zs = some r) ?_ (n := n) (s := 0) ⟨by kernel_rfl, h⟩
        clear h
        rintro m4 v22 st' ⟨hr', h⟩
        cases m4 with
        | zero =>
         have h2 : (none : Option _) = some r := h
         cases h2
        | succ m4 =>
         refine ⟨m4, rfl, AWp.drop _ _ _ hr' (by kernel_rfl) ?_⟩
         clear hr' st'
         replace h : F_ad0_b4 n (F_ad0_l2 n l m2) l v14 (F_ad0_l4 n (F_ad0_l2 n l m2) l v14 m4) v22 = some r := h
         unfold F_ad0_b4 at h
         refine AWp.seq ?_
         refine AWp.seq ?_
         refine AWp.rg tt_ok [] (by kernel_rfl) all_nil ?_
         refine AE.tn_ ?_
         refine AWp.cnd h (by kernel_rfl) ?_ ?_ <;> clear h <;> intro h
         ·refine AWp.skip ?_
          refine AE.tn_ ?_
          refine AWp.seq ?_
          refine AWp.block ?_
          refine AWp.seq ?_
          obtain ⟨g23, h⟩ := ass_some h
          obtain ⟨g24, h⟩ := ass_some h
          refine AWp.rgD tt_ok mo_ok [(2, [.raw]), (7, [.raw])] (by kernel_rfl) (all_cons g24 (all_cons g23 all_nil)) ?_
          refine AE.tn_ ?_
          refine AWp.cnd h (by kernel_rfl) ?_ ?_ <;> clear h <;> intro h
          ·refine AWp.seq ?_
           refine AWp.rg tt_ok [] (by kernel_rfl) all_nil ?_
           refine AE.tn_ ?_
           refine AWp.ret ?_
           obtain rfl := Option.some.inj h
           exact AE.br_ (AE.tr_ (AE.tr_ (AE.br_ (AE.br_ (AE.tr_ (AE.tr_ (AE.br_ (AE.tr_ (post_ret (by kernel_rfl))))))))))
          ·refine AWp.skip ?_
           refine AE.bn_ (AE.tn_ ?_)
           refine AWp.rg tt_ok [] (by kernel_rfl) all_nil ?_
           exact AE.tn_ ⟨(IntKind.i64.wrap (v22 + 1)), by kernel_rfl, h⟩
         ·refine AWp.exit ?_
          exact AE.tx_ (AE.tx_ (AE.block_hit (AE.bn_ (AE.tn_ ⟨by kernel_rfl, h⟩))))
     ·clear h
      rintro st' ⟨hr', h⟩
      refine AWp.drop _ _ _ hr' (by kernel_rfl) ?_
      clear hr' st'
      unfold F_ad0_j3 at h
      refine AWp.rg tt_ok [] (by kernel_rfl) all_nil ?_
      exact AE.tn_ ⟨(IntKind.i64.wrap (v14 + 1)), by kernel_rfl, h⟩
    ·refine AWp.exit ?_
     exact AE.tx_ (AE.tx_ (AE.block_hit (AE.tn_ ⟨by kernel_rfl, h⟩)))
  ·clear h
   rintro st' ⟨hr', h⟩
   refine AWp.drop _ _ _ hr' (by kernel_rfl) ?_
   clear hr' st'
   unfold F_ad0_j1 at h
   refine AWp.seq ?_
   refine AWp.rg tt_ok [] (by kernel_rfl) all_nil ?_
   refine AE.tn_ ?_
   refine AWp.ret ?_
   obtain rfl := Option.some.inj h
   exact post_ret (by kernel_rfl)
theorem c_bi0 (n : Nat) (op : Int) (r : Bool × Bool × Bool × Bool × Bool × Bool) (h : F_bi0 n op = some r) : saysOf Tryz.prog 139 [.v (.int .i64 op)] [] [] (.ret (.tup [.v (.bool r.1), .v (.bool r.2.1), .v (.bool r.2.2.1), .v (.bool r.2.2.2.1), .v (.bool r.2.2.2.2.1), .v (.bool r.2.2.2.2.2)]) none) [] := by
 refine sw_ tt_ok Tryz.func139 rfl rfl rfl ?_
 unfold F_bi0 at h
 refine AWp.seq ?_
 refine AWp.rg tt_ok [] (by kernel_rfl) all_nil ?_
 refine AE.tn_ ?_
 refine AWp.cut (fun st' => restr [] [] 0 st'.env st'.H st'.nxt = some ⟨[], [], 0⟩ ∧ F_bi0_j1 n = some r) ?_ ?_
 ·refine AWp.seq ?_
  refine AWp.rg tt_ok [] (by kernel_rfl) all_nil ?_
  refine AE.tn_ ?_
  refine AWp.block ?_
  refine AWp.cut (fun st' => ∃ (v1 : Bool), restr [8, 9] [] 0 st'.env st'.H st'.nxt = some ⟨[(8, ⟨.v (.int .i64 op), none⟩), (9, ⟨.v (.bool v1), none⟩)], [], 0⟩ ∧ F_bi0_j2 n op v1 = some r) ?_ ?_
  ·refine AWp.seq ?_
   refine AWp.rg tt_ok [] (by kernel_rfl) all_nil ?_
   refine AE.tn_ ?_
   refine AWp.cnd h (by kernel_rfl) ?_ ?_ <;> clear h <;> intro h
   ·refine AWp.skip ?_
    exact AE.tn_ ⟨(decide (op = 1)), by kernel_rfl, h⟩
   ·refine AWp.rg tt_ok [] (by kernel_rfl) all_nil ?_
    exact AE.tn_ ⟨(decide (op = 2)), by kernel_rfl, h⟩
  ·clear h
   rintro st' ⟨v1, hr', h⟩
   refine AWp.drop _ _ _ hr' (by kernel_rfl) ?_
   clear hr' st'
   unfold F_bi0_j2 at h
   refine AWp.cnd h (by kernel_rfl) ?_ ?_ <;> clear h <;> intro h
   ·refine AWp.seq ?_
    refine AWp.rg tt_ok [] (by kernel_rfl) all_nil ?_
    refine AE.tn_ ?_
    refine AWp.ret ?_
    obtain rfl := Option.some.inj h
    exact AE.br_ (AE.tr_ (post_ret (by kernel_rfl)))
   ·refine AWp.seq ?_
    refine AWp.rg tt_ok [] (by kernel_rfl) all_nil ?_
    refine AE.tn_ ?_
    refine AWp.cnd h (by kernel_rfl) ?_ ?_ <;> clear h <;> intro h
    ·refine AWp.seq ?_
     refine AWp.rg tt_ok [] (by kernel_rfl) all_nil ?_
     refine AE.tn_ ?_
     refine AWp.ret ?_
     obtain rfl := Option.some.inj h
     exact AE.br_ (AE.tr_ (post_ret (by kernel_rfl)))
    ·refine AWp.cut (fun st' => ∃ (v2 : Bool), restr [8, 14] [] 0 st'.env st'.H st'.nxt = some ⟨[(8, ⟨.v (.int .i64 op), none⟩), (14, ⟨.v (.bool v2), none⟩)], [], 0⟩ ∧ F_bi0_j3 n op v2 = some r) ?_ ?_
     ·refine AWp.seq ?_
      refine AWp.rg tt_ok [] (by kernel_rfl) all_nil ?_
      refine AE.tn_ ?_
      refine AWp.cnd h (by kernel_rfl) ?_ ?_ <;> clear h <;> intro h
      ·refine AWp.skip ?_
       exact AE.tn_ ⟨(decide (op = 4)), by kernel_rfl, h⟩
      ·refine AWp.rg tt_ok [] (by kernel_rfl) all_nil ?_
       exact AE.tn_ ⟨(decide (op = 7)), by kernel_rfl, h⟩
     ·clear h
      rintro st' ⟨v2, hr', h⟩
      refine AWp.drop _ _ _ hr' (by kernel_rfl) ?_
      clear hr' st'
      unfold F_bi0_j3 at h
      refine AWp.cnd h (by kernel_rfl) ?_ ?_ <;> clear h <;> intro h
      ·refine AWp.seq ?_
       refine AWp.rg tt_ok [] (by kernel_rfl) all_nil ?_
       refine AE.tn_ ?_
       refine AWp.ret ?_
       obtain rfl := Option.some.inj h
       exact AE.br_ (AE.tr_ (post_ret (by kernel_rfl)))
      ·refine AWp.seq ?_
       refine AWp.rg tt_ok [] (by kernel_rfl) all_nil ?_
       refine AE.tn_ ?_
       refine AWp.cnd h (by kernel_rfl) ?_ ?_ <;> clear h <;> intro h
       ·refine AWp.seq ?_
        refine AWp.rg tt_ok [] (by kernel_rfl) all_nil ?_
        refine AE.tn_ ?_
        refine AWp.ret ?_
        obtain rfl := Option.some.inj h
        exact AE.br_ (AE.tr_ (post_ret (by kernel_rfl)))
       ·refine AWp.seq ?_
        refine AWp.rg tt_ok [] (by kernel_rfl) all_nil ?_
        refine AE.tn_ ?_
        refine AWp.cnd h (by kernel_rfl) ?_ ?_ <;> clear h <;> intro h
        ·refine AWp.seq ?_
         refine AWp.rg tt_ok [] (by kernel_rfl) all_nil ?_
         refine AE.tn_ ?_
         refine AWp.ret ?_
         obtain rfl := Option.some.inj h
         exact AE.br_ (AE.tr_ (post_ret (by kernel_rfl)))
        ·refine AWp.skip ?_
         exact AE.bn_ (AE.tn_ ⟨by kernel_rfl, h⟩)
 ·clear h
  rintro st' ⟨hr', h⟩
  refine AWp.drop _ _ _ hr' (by kernel_rfl) ?_
  clear hr' st'
  unfold F_bi0_j1 at h
  refine AWp.seq ?_
  refine AWp.rg tt_ok [] (by kernel_rfl) all_nil ?_
  refine AE.tn_ ?_
  refine AWp.ret ?_
  obtain rfl := Option.some.inj h
  exact post_ret (by kernel_rfl)
theorem c_bu0 (n : Nat) (s : Stmt) (depth : Int) (r : Int) (h : F_bu0 n s depth = some r) : saysOf Tryz.prog 97 [.v (.agg [.int .i64 s.Op, .str s.Name, .int .i64 s.Max, .int .i64 s.A.Op, .int .i64 s.A.N, .str s.A.S, encL 4 enc_Expr s.A.Args, .int .i64 s.B.Op, .int .i64 s.B.N, .str s.B.S, encL 4 enc_Expr s.B.Args, encL 13 enc_Stmt s.Body, encL 13 enc_Stmt s.Else]), .v (.int .i64 depth)] [] [] (.ret (.v (.int .i64 r)) none) [] := by
 refine sw_ tt_ok Tryz.func97 rfl rfl rfl ?_
 unfold F_bu0 at h
 refine AWp.seq ?_
 refine AWp.rg tt_ok [] (by kernel_rfl) all_nil ?_
 refine AE.tn_ ?_
 refine AWp.seq ?_
 obtain ⟨r1, hr1, h⟩ := bind_some h
 have pr1 := c_bi0 n s.Op _ hr1
 refine AWp.rg tt_ok [orn pr1 []] (by kernel_rfl) (all_cons pr1 all_nil) ?_
 refine AE.tn_ ?_
 refine AWp.seq ?_
 refine AWp.seq ?_
 obtain ⟨r2, hr2, h⟩ := bind_some h
 have pr2 := fun c1 c2 => c_bx0 n (⟨s.A.Op, s.A.N, s.A.S, s.A.Args⟩ : Expr) _ (cond_t (and_t (not_t c1) c2) hr2)
 obtain ⟨r3, hr3, h⟩ := bind_some h
 have pr3 := fun c1 c2 => c_bx0 n (⟨s.B.Op, s.B.N, s.B.S, s.B.Args⟩ : Expr) _ (cond_t (and_t (not_t c1) c2) hr3)
 refine AWp.rg tt_ok [orn2 pr2, orn2 pr3] (by kernel_rfl) (all_cons pr3 (all_cons pr2 all_nil)) ?_
 refine AE.tn_ ?_
 refine AWp.cnd h (by kernel_rfl) ?_ ?_ <;> clear h <;> intro h
 ·refine AWp.seq ?_
  refine AWp.rg tt_ok [] (by kernel_rfl) all_nil ?_
  refine AE.tn_ ?_
  refine AWp.ret ?_
  obtain rfl := Option.some.inj h
  exact AE.tr_ (post_ret (by kernel_rfl))
 ·refine AWp.skip ?_
  refine AE.tn_ ?_
  refine AWp.seq ?_
  refine AWp.seq ?_
  refine AWp.rg tt_ok [] (by kernel_rfl) all_nil ?_
  refine AE.tn_ ?_
  refine AWp.cnd h (by kernel_rfl) ?_ ?_ <;> clear h <;> intro h
  ·refine AWp.seq ?_
   refine AWp.rg tt_ok [] (by kernel_rfl) all_nil ?_
   refine AE.tn_ ?_
   refine AWp.ret ?_
   obtain rfl := Option.some.inj h
   exact AE.tr_ (post_ret (by kernel_rfl))
  ·refine AWp.skip ?_
   refine AE.tn_ ?_
   refine AWp.seq ?_
   refine AWp.seq ?_
   obtain ⟨r6, hr6, h⟩ := bind_some h
   have pr6 := fun c1 => c_bw0 n s.Name _ (cond_t c1 hr6)
   refine AWp.rg tt_ok [orn1 pr6] (by kernel_rfl) (all_cons pr6 all_nil) ?_
   refine AE.tn_ ?_
   refine AWp.cnd h (by kernel_rfl) ?_ ?_ <;> clear h <;> intro h
   ·refine AWp.seq ?_
    refine AWp.rg tt_ok [] (by kernel_rfl) all_nil ?_
    refine AE.tn_ ?_
    refine AWp.ret ?_
    obtain rfl := Option.some.inj h
    exact AE.tr_ (post_ret (by kernel_rfl))
   ·refine AWp.skip ?_
    refine AE.tn_ ?_
    refine AWp.cut (fun st' => restr [1, 2, 8] [0] 1 st'.env st'.H st'.nxt = some ⟨[(1, ⟨.v (.int .i64 depth), none⟩), (2, ⟨.ptr 0 0, none⟩), (8, ⟨.v (.bool r1.2.2.2.1), none⟩)], [(0, [⟨.v (.int .i64 s.Op), none⟩, ⟨.v (.str s.Name), none⟩, ⟨.v (.int .i64 s.Max), none⟩, ⟨.v (.int .i64 s.A.Op), none⟩, ⟨.v (.int .i64 s.A.N), none⟩, ⟨.v (.str s.A.S), none⟩, ⟨.v (encL 4 enc_Expr s.A.Args), none⟩, ⟨.v (.int .i64 s.B.Op), none⟩, ⟨.v (.int .i64 s.B.N), none⟩, ⟨.v (.str s.B.S), none⟩, ⟨.v (encL 4 enc_Expr s.B.Args), none⟩, ⟨.v (encL 13 enc_Stmt s.Body), none⟩, ⟨.v (encL 13 enc_Stmt s.Else), none⟩])], 1⟩ ∧ F_bu0_j1 n depth r1 s = some r) ?_ ?_
    ·refine AWp.seq ?_
     refine AWp.rg tt_ok [] (by kernel_rfl) all_nil ?_
     refine AE.tn_ ?_
     refine AWp.cnd h (by kernel_rfl) ?_ ?_ <;> clear h <;> intro h
     ·refine AWp.seq ?_
      obtain ⟨r8, hr8, h⟩ := bind_some h
      have pr8 := c_cd0 n (⟨s.A.Op, s.A.N, s.A.S, s.A.Args⟩ : Expr) _ hr8
      refine AWp.rg tt_ok [orn pr8 []] (by kernel_rfl) (all_cons pr8 all_nil) ?_
      refine AE.tn_ ?_
      refine AWp.seq ?_
      refine AWp.rg tt_ok [] (by kernel_rfl) all_nil ?_
      refine AE.tn_ ?_
      refine AWp.cnd h (by kernel_rfl) ?_ ?_ <;> clear h <;> intro h
      ·refine AWp.seq ?_
       refine AWp.rg tt_ok [] (by kernel_rfl) all_nil ?_
       refine AE.tn_ ?_
       refine AWp.ret ?_
       obtain rfl := Option.some.inj h
       exact AE.tr_ (post_ret (by kernel_rfl))
      ·refine AWp.skip ?_
       exact AE.tn_ ⟨by kernel_rfl, h⟩
     ·refine AWp.skip ?_
      exact AE.tn_ ⟨by kernel_rfl, h⟩
    ·clear h
     rintro st' ⟨hr', h⟩
     refine AWp.drop _ _ _ hr' (by kernel_rfl) ?_
     clear hr' st'
     unfold F_bu0_j1 at h
     refine AWp.cut (fun st' => restr [1] [] 0 st'.env st'.H st'.nxt = some ⟨[(1, ⟨.v (.int .i64 depth), none⟩)], [], 0⟩ ∧ F_bu0_j2 n depth = some r) ?_ ?_
     ·refine AWp.seq ?_
      refine AWp.rg tt_ok [] (by kernel_rfl) all_nil ?_
      refine AE.tn_ ?_
      refine AWp.cnd h (by kernel_rfl) ?_ ?_ <;> clear h <;> intro h
      ·refine AWp.seq ?_
       obtain ⟨r9, hr9, h⟩ := bind_some h
       have pr9 := c_cd0 n (⟨s.B.Op, s.B.N, s.B.S, s.B.Args⟩ : Expr) _ hr9
       refine AWp.rg tt_ok [orn pr9 []] (by kernel_rfl) (all_cons pr9 all_nil) ?_
       refine AE.tn_ ?_
       refine AWp.seq ?_
       refine AWp.rg tt_ok [] (by kernel_rfl) all_nil ?_
       refine AE.tn_ ?_
       refine AWp.cnd h (by kernel_rfl) ?_ ?_ <;> clear h <;> intro h
       ·refine AWp.seq ?_
        refine AWp.rg tt_ok [] (by kernel_rfl) all_nil ?_
        refine AE.tn_ ?_
        refine AWp.ret ?_
        obtain rfl := Option.some.inj h
        exact AE.tr_ (post_ret (by kernel_rfl))
       ·refine AWp.skip ?_
        exact AE.tn_ ⟨by kernel_rfl, h⟩
      ·refine AWp.skip ?_
       exact AE.tn_ ⟨by kernel_rfl, h⟩
     ·clear h
      rintro st' ⟨hr', h⟩
      refine AWp.drop _ _ _ hr' (by kernel_rfl) ?_
      clear hr' st'
      unfold F_bu0_j2 at h
      refine AWp.seq ?_
      refine AWp.seq ?_
      refine AWp.rg tt_ok [] (by kernel_rfl) all_nil ?_
      refine AE.tn_ ?_
      refine AWp.cnd h (by kernel_rfl) ?_ ?_ <;> clear h <;> intro h
      ·refine AWp.seq ?_
       refine AWp.rg tt_ok [] (by kernel_rfl) all_nil ?_
       refine AE.tn_ ?_
       refine AWp.ret ?_
       obtain rfl := Option.some.inj h
       exact AE.tr_ (post_ret (by kernel_rfl))
      ·refine AWp.skip ?_
       refine AE.tn_ ?_
       refine AWp.seq ?_
       refine AWp.rg tt_ok [] (by kernel_rfl) all_nil ?_
       refine AE.tn_ ?_
       refine AWp.ret ?_
       obtain rfl := Option.some.inj h
       exact post_ret (by kernel_rfl)
theorem c_ak0 (n : Nat) (p : Proc) (r : Int) (h : F_ak0 n p = some r) : saysOf Tryz.prog 42 [.v (.agg [.str p.Name, encL 2 enc_Param p.Params, encL 13 enc_Stmt p.Body])] [] [] (.ret (.v (.int .i64 r)) none) [] := by
 refine sw_ tt_ok Tryz.func42 rfl rfl rfl ?_
 unfold F_ak0 at h
 refine AWp.seq ?_
 refine AWp.rg tt_ok [] (by kernel_rfl) all_nil ?_
 refine AE.tn_ ?_
 refine AWp.seq ?_
 refine AWp.seq ?_
 obtain ⟨r1, hr1, h⟩ := bind_some h
 have pr1 := c_bw0 n p.Name _ hr1
 refine AWp.rg tt_ok [orn pr1 []] (by kernel_rfl) (all_cons pr1 all_nil) ?_
 refine AE.tn_ ?_
 refine AWp.cnd h (by kernel_rfl) ?_ ?_ <;> clear h <;> intro h
 ·refine AWp.seq ?_
  refine AWp.rg tt_ok [] (by kernel_rfl) all_nil ?_
  refine AE.tn_ ?_
  refine AWp.ret ?_
  obtain rfl := Option.some.inj h
  exact AE.tr_ (post_ret (by kernel_rfl))
 ·refine AWp.skip ?_
  refine AE.tn_ ?_
  refine AWp.seq ?_
  refine AWp.seq ?_
  obtain ⟨r3, hr3, h⟩ := bind_some h
  have pr3 := c_ad0 n p.Params _ hr3
  refine AWp.rg tt_ok [orn pr3 []] (by kernel_rfl) (all_cons pr3 all_nil) ?_
  refine AE.tn_ ?_
  refine AWp.seq ?_
  refine AWp.rg tt_ok [] (by kernel_rfl) all_nil ?_
  refine AE.tn_ ?_
  refine AWp.cnd h (by kernel_rfl) ?_ ?_ <;> clear h <;> intro h
  ·refine AWp.seq ?_
   refine AWp.rg tt_ok [] (by kernel_rfl) all_nil ?_
   refine AE.tn_ ?_
   refine AWp.ret ?_
   obtain rfl := Option.some.inj h
   exact AE.tr_ (post_ret (by kernel_rfl))
  ·refine AWp.skip ?_
   refine AE.tn_ ?_
   refine AWp.seq ?_
   obtain ⟨r5, hr5, h⟩ := bind_some h
   have pr5 := c_dq0 n p _ hr5
   refine AWp.rg tt_ok [orn pr5 []] (by kernel_rfl) (all_cons pr5 all_nil) ?_
   refine AE.tn_ ?_
   refine AWp.cut (fun st' => restr [4] [] 0 st'.env st'.H st'.nxt = some ⟨[(4, ⟨.v (encL 20 enc_Vz8 r5), (some 138)⟩)], [], 0⟩ ∧ F_ak0_j1 n r5 = some r) ?_ ?_
   ·refine AWp.seq ?_
    refine AWp.rg tt_ok [] (by kernel_rfl) all_nil ?_
    refine AE.tn_ ?_
    refine AWp.block ?_
    refine AWp.loop (σ := Int) (fun zm zs zst => restr [4, 5] [] 0 zst.env zst.H zst.nxt = some ⟨[(4, ⟨.v (encL 20 enc_Vz8 r5), (some 138)⟩), (5, ⟨.v (.int .i64 zs), none⟩)], [], 0⟩ ∧ F_ak0_l2 n r5 zm zs = some r) ?_ (n := n) (s := 0) ⟨by kernel_rfl, h⟩
    clear h
    rintro m2 v11 st' ⟨hr', h⟩
    cases m2 with
    | zero =>
     have h2 : (none : Option _) = some r := h
     cases h2
    | succ m2 =>
     refine ⟨m2, rfl, AWp.drop _ _ _ hr' (by kernel_rfl) ?_⟩
     clear hr' st'
     replace h : F_ak0_b2 n r5 (F_ak0_l2 n r5 m2) v11 = some r := h
     unfold F_ak0_b2 at h
     refine AWp.seq ?_
     refine AWp.seq ?_
     refine AWp.rg tt_ok [] (by kernel_rfl) all_nil ?_
     refine AE.tn_ ?_
     refine AWp.cnd h (by kernel_rfl) ?_ ?_ <;> clear h <;> intro h
     ·refine AWp.skip ?_
      refine AE.tn_ ?_
      refine AWp.cut (fun st' => restr [4, 5] [] 0 st'.env st'.H st'.nxt = some ⟨[(4, ⟨.v (encL 20 enc_Vz8 r5), (some 138)⟩), (5, ⟨.v (.int .i64 v11), none⟩)], [], 0⟩ ∧ F_ak0_j3 n (F_ak0_l2 n r5 m2) r5 v11 = some r) ?_ ?_
      ·refine AWp.block ?_
       refine AWp.seq ?_
       obtain ⟨g12, h⟩ := ass_some h
       refine AWp.rg tt_ok [.raw] (by kernel_rfl) (all_cons g12 all_nil) ?_
       refine AE.tn_ ?_
       refine AWp.cnd h (by kernel_rfl) ?_ ?_ <;> clear h <;> intro h
       ·refine AWp.seq ?_
        obtain ⟨g13, h⟩ := ass_some h
        obtain ⟨g14, h⟩ := ass_some h
        obtain ⟨r15, hr15, h⟩ := bind_some h
        have pr15 := c_bu0 n ((r5.getD (v11).toNat default).Stmt) ((r5.getD (v11).toNat default).Depth) _ hr15
        refine AWp.rgD tt_ok mo_ok [(2, [.raw]), (7, [.raw]), (10, [orn pr15 []])] (by kernel_rfl) (all_cons pr15 (all_cons g14 (all_cons g13 all_nil))) ?_
        refine AE.tn_ ?_
        refine AWp.seq ?_
        refine AWp.rg tt_ok [] (by kernel_rfl) all_nil ?_
        refine AE.tn_ ?_
        refine AWp.cnd h (by kernel_rfl) ?_ ?_ <;> clear h <;> intro h
        ·refine AWp.seq ?_
         refine AWp.rg tt_ok [] (by kernel_rfl) all_nil ?_
         refine AE.tn_ ?_
         refine AWp.ret ?_
         obtain rfl := Option.some.inj h
         exact AE.br_ (AE.tr_ (AE.tr_ (AE.br_ (AE.tr_ (post_ret (by kernel_rfl))))))
        ·refine AWp.skip ?_
         exact AE.bn_ (AE.tn_ ⟨by kernel_rfl, h⟩)
       ·refine AWp.skip ?_
        exact AE.bn_ (AE.tn_ ⟨by kernel_rfl, h⟩)
      ·clear h
       rintro st' ⟨hr', h⟩
       refine AWp.drop _ _ _ hr' (by kernel_rfl) ?_
       clear hr' st'
       unfold F_ak0_j3 at h
       refine AWp.rg tt_ok [] (by kernel_rfl) all_nil ?_
       exact AE.tn_ ⟨(IntKind.i64.wrap (v11 + 1)), by kernel_rfl, h⟩
     ·refine AWp.exit ?_
      exact AE.tx_ (AE.tx_ (AE.block_hit (AE.tn_ ⟨by kernel_rfl, h⟩)))
   ·clear h
    rintro st' ⟨hr', h⟩
    refine AWp.drop _ _ _ hr' (by kernel_rfl) ?_
    clear hr' st'
    unfold F_ak0_j1 at h
    refine AWp.seq ?_
    refine AWp.seq ?_
    refine AWp.rg tt_ok [] (by kernel_rfl) all_nil ?_
    refine AE.tn_ ?_
    refine AWp.cnd h (by kernel_rfl) ?_ ?_ <;> clear h <;> intro h
    ·refine AWp.seq ?_
     refine AWp.rg tt_ok [] (by kernel_rfl) all_nil ?_
     refine AE.tn_ ?_
     refine AWp.ret ?_
     obtain rfl := Option.some.inj h
     exact AE.tr_ (post_ret (by kernel_rfl))
    ·refine AWp.skip ?_
     refine AE.tn_ ?_
     refine AWp.seq ?_
     refine AWp.rg tt_ok [] (by kernel_rfl) all_nil ?_
     refine AE.tn_ ?_
     refine AWp.ret ?_
     obtain rfl := Option.some.inj h
     exact post_ret (by kernel_rfl)
theorem c_ax0 (n : Nat) (l : List Token) (at_ : Int) (r : Int) (h : F_ax0 n l at_ = some r) : saysOf Tryz.prog 166 [.v (encL 4 enc_Token l), .v (.int .i64 at_)] [] [] (.ret (.v (.int .i64 r)) none) [] := by
 refine sw_ tt_ok Tryz.func166 rfl rfl rfl ?_
 unfold F_ax0 at h
 refine AWp.seq ?_
 refine AWp.rg tt_ok [] (by kernel_rfl) all_nil ?_
 refine AE.tn_ ?_
 refine AWp.seq ?_
 refine AWp.rg tt_ok [.val (encL 1 e_str ([([108, 101, 116] : List UInt8), ([112, 117, 116] : List UInt8), ([100, 101, 108, 101, 116, 101] : List UInt8), ([105, 102] : List UInt8), ([102, 111, 114] : List UInt8), ([101, 109, 105, 116] : List UInt8), ([97, 98, 111, 114, 116] : List UInt8)] : List (List UInt8)))] (by kernel_rfl) (all_cons (vimp_litm (k := 1) (e := e_str) ([([108, 101, 116] : List UInt8), ([112, 117, 116] : List UInt8), ([100, 101, 108, 101, 116, 101] : List UInt8), ([105, 102] : List UInt8), ([102, 111, 114] : List UInt8), ([101, 109, 105, 116] : List UInt8), ([97, 98, 111, 114, 116] : List UInt8)] : List (List UInt8))) all_nil) ?_
 refine AE.tn_ ?_
 refine AWp.seq ?_
 refine AWp.rg tt_ok [.val (encL 1 e_i64 ([1, 3, 4, 5, 6, 7, 8] : List Int))] (by kernel_rfl) (all_cons (vimp_litm (k := 1) (e := e_i64) ([1, 3, 4, 5, 6, 7, 8] : List Int)) all_nil) ?_
 refine AE.tn_ ?_
 refine AWp.cut (fun st' => restr [] [] 0 st'.env st'.H st'.nxt = some ⟨[], [], 0⟩ ∧ F_ax0_j1 n = some r) ?_ ?_
 ·refine AWp.seq ?_
  refine AWp.rg tt_ok [] (by kernel_rfl) all_nil ?_
  refine AE.tn_ ?_
  refine AWp.block ?_
  refine AWp.loop (σ := Int) (fun zm zs zst => restr [0, 1, 5, 6, 7] [] 0 zst.env zst.H zst.nxt = some ⟨[(0, ⟨.v (encL 4 enc_Token l), none⟩), (1, ⟨.v (.int .i64 at_), none⟩), (5, ⟨.v (encL 1 e_str ([([108, 101, 116] : List UInt8), ([112, 117, 116] : List UInt8), ([100, 101, 108, 101, 116, 101] : List UInt8), ([105, 102] : List UInt8), ([102, 111, 114] : List UInt8), ([101, 109, 105, 116] : List UInt8), ([97, 98, 111, 114, 116] : List UInt8)] : List (List UInt8))), (some 9)⟩), (6, ⟨.v (encL 1 e_i64 ([1, 3, 4, 5, 6, 7, 8] : List Int)), (some 3)⟩), (7, ⟨.v (.int .i64 zs), none⟩)], [], 0⟩ ∧ F_ax0_l2 n l at_ zm zs = some r) ?_ (n := n) (s := 0) ⟨by kernel_rfl, h⟩
  clear h
  rintro m2 v5 st' ⟨hr', h⟩
  cases m2 with
  | zero =>
   have h2 : (none : Option _) = some r := h
   cases h2
  | succ m2 =>
   refine ⟨m2, rfl, AWp.drop _ _ _ hr' (by kernel_rfl) ?_⟩
   clear hr' st'
   replace h : F_ax0_b2 n l at_ (F_ax0_l2 n l at_ m2) v5 = some r := h
   unfold F_ax0_b2 at h
   refine AWp.seq ?_
   refine AWp.seq ?_
   refine AWp.rg tt_ok [] (by kernel_rfl) all_nil ?_
   refine AE.tn_ ?_
   refine AWp.cnd h (by kernel_rfl) ?_ ?_ <;> clear h <;> intro h
   ·refine AWp.skip ?_
    refine AE.tn_ ?_
    refine AWp.seq ?_
    refine AWp.block ?_
    refine AWp.seq ?_
    obtain ⟨g6, h⟩ := ass_some h
    obtain ⟨r7, hr7, h⟩ := bind_some h
    have pr7 := c_az0 n l at_ (([([108, 101, 116] : List UInt8), ([112, 117, 116] : List UInt8), ([100, 101, 108, 101, 116, 101] : List UInt8), ([105, 102] : List UInt8), ([102, 111, 114] : List UInt8), ([101, 109, 105, 116] : List UInt8), ([97, 98, 111, 114, 116] : List UInt8)] : List (List UInt8)).getD (v5).toNat default) _ hr7
    refine AWp.rg tt_ok [.raw, orn pr7 []] (by kernel_rfl) (all_cons pr7 (all_cons g6 all_nil)) ?_
    refine AE.tn_ ?_
    refine AWp.cnd h (by kernel_rfl) ?_ ?_ <;> clear h <;> intro h
    ·refine AWp.seq ?_
     obtain ⟨g8, h⟩ := ass_some h
     refine AWp.rg tt_ok [.raw] (by kernel_rfl) (all_cons g8 all_nil) ?_
     refine AE.tn_ ?_
     refine AWp.ret ?_
     obtain rfl := Option.some.inj h
     exact AE.br_ (AE.tr_ (AE.tr_ (AE.br_ (AE.tr_ (post_ret (by kernel_rfl))))))
    ·refine AWp.skip ?_
     refine AE.bn_ (AE.tn_ ?_)
     refine AWp.rg tt_ok [] (by kernel_rfl) all_nil ?_
     exact AE.tn_ ⟨(IntKind.i64.wrap (v5 + 1)), by kernel_rfl, h⟩
   ·refine AWp.exit ?_
    exact AE.tx_ (AE.tx_ (AE.block_hit (AE.tn_ ⟨by kernel_rfl, h⟩)))
 ·clear h
  rintro st' ⟨hr', h⟩
  refine AWp.drop _ _ _ hr' (by kernel_rfl) ?_
  clear hr' st'
  unfold F_ax0_j1 at h
  refine AWp.seq ?_
  refine AWp.rg tt_ok [] (by kernel_rfl) all_nil ?_
  refine AE.tn_ ?_
  refine AWp.ret ?_
  obtain rfl := Option.some.inj h
  exact post_ret (by kernel_rfl)
theorem c_by0 (n : Nat) (l : List Token) (at_ : Int) (kind : Int) (r : Token × Int × Int) (h : F_by0 n l at_ kind = some r) : saysOf Tryz.prog 91 [.v (encL 4 enc_Token l), .v (.int .i64 at_), .v (.int .i64 kind)] [] [] (.ret (.tup [.v (.agg [.int .i64 r.1.Kind, .str r.1.Text, .int .i64 r.1.N, .int .i64 r.1.Line]), .v (.int .i64 r.2.1), .v (.int .i64 r.2.2)]) none) [] := by
 refine sw_ tt_ok Tryz.func91 rfl rfl rfl ?_
 unfold F_by0 at h
 refine AWp.seq ?_
 refine AWp.rg tt_ok [] (by kernel_rfl) all_nil ?_
 refine AE.tn_ ?_
 refine AWp.seq ?_
 refine AWp.seq ?_
 obtain ⟨g1, h⟩ := ass_some h
 refine AWp.rg tt_ok [.raw] (by kernel_rfl) (all_cons (orF g1) all_nil) ?_
 refine AE.tn_ ?_
 refine AWp.cnd h (by kernel_rfl) ?_ ?_ <;> clear h <;> intro h
 ·refine AWp.seq ?_
  obtain ⟨r3, hr3, h⟩ := bind_some h
  have pr3 := c_cb0 n l at_ _ hr3
  refine AWp.rg tt_ok [orn pr3 []] (by kernel_rfl) (all_cons pr3 all_nil) ?_
  refine AE.tn_ ?_
  refine AWp.ret ?_
  obtain rfl := Option.some.inj h
  exact AE.tr_ (post_ret (by kernel_rfl))
 ·refine AWp.skip ?_
  refine AE.tn_ ?_
  refine AWp.seq ?_
  obtain ⟨g4, h⟩ := ass_some h
  refine AWp.rg tt_ok [.raw] (by kernel_rfl) (all_cons g4 all_nil) ?_
  refine AE.tn_ ?_
  refine AWp.ret ?_
  obtain rfl := Option.some.inj h
  exact post_ret (by kernel_rfl)
theorem cB_ref10_block (n : Nat) (f_f0 : (List Token) → Int → Int → Option ((List Stmt) × Int × Int)) (f_h0 : (List Token) → Int → Int → Option (Stmt × Int × Int)) (f_n0 : (List Token) → Int → Stmt → Int → Option (Stmt × Int × Int)) (f_q0 : (List Token) → Int → Stmt → Int → Option (Stmt × Int × Int)) (i_f0 : ∀ (l : List Token) (at_ : Int) (depth : Int) (r : (List Stmt) × Int × Int), f_f0 l at_ depth = some r → saysOf Tryz.prog 93 [.v (encL 4 enc_Token l), .v (.int .i64 at_), .v (.int .i64 depth)] [] [] (.ret (.tup [.v (encL 13 enc_Stmt r.1), .v (.int .i64 r.2.1), .v (.int .i64 r.2.2)]) none) []) (i_h0 : ∀ (l : List Token) (at_ : Int) (depth : Int) (r : Stmt × Int × Int), f_h0 l at_ depth = some r → saysOf Tryz.prog 135 [.v (encL 4 enc_Token l), .v (.int .i64 at_), .v (.int .i64 depth)] [] [] (.ret (.tup [.v (.agg [.int .i64 r.1.Op, .str r.1.Name, .int .i64 r.1.Max, .int .i64 r.1.A.Op, .int .i64 r.1.A.N, .str r.1.A.S, encL 4 enc_Expr r.1.A.Args, .int .i64 r.1.B.Op, .int .i64 r.1.B.N, .str r.1.B.S, encL 4 enc_Expr r.1.B.Args, encL 13 enc_Stmt r.1.Body, encL 13 enc_Stmt r.1.Else]), .v (.int .i64 r.2.1), .v (.int .i64 r.2.2)]) none) []) (i_n0 : ∀ (l : List Token) (at_ : Int) (s : Stmt) (depth : Int) (r : Stmt × Int × Int), f_n0 l at_ s depth = some r → saysOf Tryz.prog 167 [.v (encL 4 enc_Token l), .v (.int .i64 at_), .v (.agg [.int .i64 s.Op, .str s.Name, .int .i64 s.Max, .int .i64 s.A.Op, .int .i64 s.A.N, .str s.A.S, encL 4 enc_Expr s.A.Args, .int .i64 s.B.Op, .int .i64 s.B.N, .str s.B.S, encL 4 enc_Expr s.B.Args, encL 13 enc_Stmt s.Body, encL 13 enc_Stmt s.Else]), .v (.int .i64 depth)] [] [] (.ret (.tup [.v (.agg [.int .i64 r.1.Op, .str r.1.Name, .int .i64 r.1.Max, .int .i64 r.1.A.Op, .int .i64 r.1.A.N, .str r.1.A.S, encL 4 enc_Expr r.1.A.Args, .int .i64 r.1.B.Op, .int .i64 r.1.B.N, .str r.1.B.S, encL 4 enc_Expr r.1.B.Args, encL 13 enc_Stmt r.1.Body, encL 13 enc_Stmt r.1.Else]), .v (.int .i64 r.2.1), .v (.int .i64 r.2.2)]) none) []) (i_q0 : ∀ (l : List Token) (at_ : Int) (s : Stmt) (depth : Int) (r : Stmt × Int × Int), f_q0 l at_ s depth = some r → saysOf Tryz.prog 168 [.v (encL 4 enc_Token l), .v (.int .i64 at_), .v (.agg [.int .i64 s.Op, .str s.Name, .int .i64 s.Max, .int .i64 s.A.Op, .int .i64 s.A.N, .str s.A.S, encL 4 enc_Expr s.A.Args, .int .i64 s.B.Op, .int .i64 s.B.N, .str s.B.S, encL 4 enc_Expr s.B.Args, encL 13 enc_Stmt s.Body, encL 13 enc_Stmt s.Else]), .v (.int .i64 depth)] [] [] (.ret (.tup [.v (.agg [.int .i64 r.1.Op, .str r.1.Name, .int .i64 r.1.Max, .int .i64 r.1.A.Op, .int .i64 r.1.A.N, .str r.1.A.S, encL 4 enc_Expr r.1.A.Args, .int .i64 r.1.B.Op, .int .i64 r.1.B.N, .str r.1.B.S, encL 4 enc_Expr r.1.B.Args, encL 13 enc_Stmt r.1.Body, encL 13 enc_Stmt r.1.Else]), .v (.int .i64 r.2.1), .v (.int .i64 r.2.2)]) none) []) (l : List Token) (at_ : Int) (depth : Int) (r : (List Stmt) × Int × Int) (h : B_f0 n f_f0 f_h0 f_n0 f_q0 l at_ depth = some r) : saysOf Tryz.prog 93 [.v (encL 4 enc_Token l), .v (.int .i64 at_), .v (.int .i64 depth)] [] [] (.ret (.tup [.v (encL 13 enc_Stmt r.1), .v (.int .i64 r.2.1), .v (.int .i64 r.2.2)]) none) [] := by
 refine sw_ tt_ok Tryz.func93 rfl rfl rfl ?_
 unfold B_f0 at h
 refine AWp.seq ?_
 refine AWp.rg tt_ok [] (by kernel_rfl) all_nil ?_
 refine AE.tn_ ?_
 refine AWp.seq ?_
 obtain ⟨r1, hr1, h⟩ := bind_some h
 have pr1 := c_af0 n l at_ ([([123] : List UInt8)] : List (List UInt8)) _ hr1
 refine AWp.rg tt_ok [.val (encL 1 e_str ([([123] : List UInt8)] : List (List UInt8))), orn pr1 []] (by kernel_rfl) (all_cons pr1 (all_cons (vimp_litm (k := 1) (e := e_str) ([([123] : List UInt8)] : List (List UInt8))) all_nil)) ?_
 refine AE.tn_ ?_
 refine AWp.seq ?_
 refine AWp.seq ?_
 refine AWp.rg tt_ok [] (by kernel_rfl) all_nil ?_
 refine AE.tn_ ?_
 refine AWp.cnd h (by kernel_rfl) ?_ ?_ <;> clear h <;> intro h
 ·refine AWp.seq ?_
  refine AWp.rg tt_ok [] (by kernel_rfl) all_nil ?_
  refine AE.tn_ ?_
  refine AWp.ret ?_
  obtain rfl := Option.some.inj h
  exact AE.tr_ (post_ret (by kernel_rfl))
 ·refine AWp.skip ?_
  refine AE.tn_ ?_
  refine AWp.seq ?_
  refine AWp.seq ?_
  refine AWp.rg tt_ok [] (by kernel_rfl) all_nil ?_
  refine AE.tn_ ?_
  refine AWp.cnd h (by kernel_rfl) ?_ ?_ <;> clear h <;> intro h
  ·refine AWp.seq ?_
   refine AWp.rg tt_ok [] (by kernel_rfl) all_nil ?_
   refine AE.tn_ ?_
   refine AWp.ret ?_
   obtain rfl := Option.some.inj h
   exact AE.tr_ (post_ret (by kernel_rfl))
  ·refine AWp.skip ?_
   refine AE.tn_ ?_
   refine AWp.seq ?_
   refine AWp.rg tt_ok [] (by kernel_rfl) all_nil ?_
   refine AE.tn_ ?_
   refine AWp.cut (fun st' => ∃ (v16 : Int) (v17 : List Stmt), restr [1, 10] [] 0 st'.env st'.H st'.nxt = some ⟨[(1, ⟨.v (.int .i64 v16), none⟩), (10, ⟨.v (encL 13 enc_Stmt v17), (some 79)⟩)], [], 0⟩ ∧ F_f0_j1 n f_f0 f_h0 f_n0 f_q0 v16 v17 = some r) ?_ ?_
   ·refine AWp.block ?_
    refine AWp.loop (σ := Int × (List Stmt)) (fun zm zs zst => restr [0, 1, 2, 10] [] 0 zst.env zst.H zst.nxt = some ⟨[(0, ⟨.v (encL 4 enc_Token l), none⟩), (1, ⟨.v (.int .i64 zs.1), none⟩), (2, ⟨.v (.int .i64 depth), none⟩), (10, ⟨.v (encL 13 enc_Stmt zs.2), (some 79)⟩)], [], 0⟩ ∧ F_f0_l2 n f_f0 f_h0 f_n0 f_q0 l depth zm zs.1 zs.2 = some r) ?_ (n := n) (s := (r1.1, ([] : List Stmt))) ⟨by kernel_rfl, h⟩
    clear h
    rintro m2 ⟨v9, v10⟩ st' ⟨hr', h⟩
    cases m2 with
    | zero =>
     have h2 : (none : Option _) = some r := h
     cases h2
    | succ m2 =>
     refine ⟨m2, rfl, AWp.drop _ _ _ hr' (by kernel_rfl) ?_⟩
     clear hr' st'
     replace h : F_f0_b2 n f_f0 f_h0 f_n0 f_q0 l depth (F_f0_l2 n f_f0 f_h0 f_n0 f_q0 l depth m2) v9 v10 = some r := h
     unfold F_f0_b2 at h
     refine AWp.seq ?_
     refine AWp.seq ?_
     obtain ⟨r11, hr11, h⟩ := bind_some h
     have pr11 := c_az0 n l v9 ([125] : List UInt8) _ hr11
     refine AWp.rg tt_ok [orn pr11 []] (by kernel_rfl) (all_cons pr11 all_nil) ?_
     refine AE.tn_ ?_
     refine AWp.cnd h (by kernel_rfl) ?_ ?_ <;> clear h <;> intro h
     ·refine AWp.skip ?_
      refine AE.tn_ ?_
      refine AWp.block ?_
      refine AWp.seq ?_
      obtain ⟨r12, hr12, h⟩ := bind_some h
      have pr12 := i_h0 l v9 depth _ hr12
      refine AWp.rg tt_ok [orn pr12 []] (by kernel_rfl) (all_cons pr12 all_nil) ?_
      refine AE.tn_ ?_
      refine AWp.seq ?_
      refine AWp.seq ?_
      refine AWp.rg tt_ok [] (by kernel_rfl) all_nil ?_
      refine AE.tn_ ?_
      refine AWp.cnd h (by kernel_rfl) ?_ ?_ <;> clear h <;> intro h
      ·refine AWp.seq ?_
       refine AWp.rg tt_ok [] (by kernel_rfl) all_nil ?_
       refine AE.tn_ ?_
       refine AWp.ret ?_
       obtain rfl := Option.some.inj h
       exact AE.tr_ (AE.br_ (AE.tr_ (AE.br_ (AE.tr_ (post_ret (by kernel_rfl))))))
      ·refine AWp.skip ?_
       refine AE.tn_ ?_
       refine AWp.seq ?_
       obtain ⟨g13, h⟩ := ass_some h
       refine AWp.rg tt_ok [.val (encL 13 enc_Stmt ([(⟨r12.1.Op, r12.1.Name, r12.1.Max, (⟨r12.1.A.Op, r12.1.A.N, r12.1.A.S, r12.1.A.Args⟩ : Expr), (⟨r12.1.B.Op, r12.1.B.N, r12.1.B.S, r12.1.B.Args⟩ : Expr), r12.1.Body, r12.1.Else⟩ : Stmt)] : List Stmt)), .val (encL 13 enc_Stmt (v10 ++ ([(⟨r12.1.Op, r12.1.Name, r12.1.Max, (⟨r12.1.A.Op, r12.1.A.N, r12.1.A.S, r12.1.A.Args⟩ : Expr), (⟨r12.1.B.Op, r12.1.B.N, r12.1.B.S, r12.1.B.Args⟩ : Expr), r12.1.Body, r12.1.Else⟩ : Stmt)] : List Stmt)))] (by kernel_rfl) (all_cons (vimp_app (k := 13) (e := enc_Stmt) v10 ([(⟨r12.1.Op, r12.1.Name, r12.1.Max, (⟨r12.1.A.Op, r12.1.A.N, r12.1.A.S, r12.1.A.Args⟩ : Expr), (⟨r12.1.B.Op, r12.1.B.N, r12.1.B.S, r12.1.B.Args⟩ : Expr), r12.1.Body, r12.1.Else⟩ : Stmt)] : List Stmt)) (all_cons g13 (all_cons (vimp_lit2 (k := 13) (e := enc_Stmt) (xs := [.agg [.int .i64 r12.1.Op, .str r12.1.Name, .int .i64 r12.1.Max, .int .i64 r12.1.A.Op, .int .i64 r12.1.A.N, .str r12.1.A.S, encL 4 enc_Expr r12.1.A.Args, .int .i64 r12.1.B.Op, .int .i64 r12.1.B.N, .str r12.1.B.S, encL 4 enc_Expr r12.1.B.Args, encL 13 enc_Stmt r12.1.Body, encL 13 enc_Stmt r12.1.Else]]) (l := ([(⟨r12.1.Op, r12.1.Name, r12.1.Max, (⟨r12.1.A.Op, r12.1.A.N, r12.1.A.S, r12.1.A.Args⟩ : Expr), (⟨r12.1.B.Op, r12.1.B.N, r12.1.B.S, r12.1.B.Args⟩ : Expr), r12.1.Body, r12.1.Else⟩ : Stmt)] : List Stmt)) (AllV.cons (rev_Stmt (⟨r12.1.Op, r12.1.Name, r12.1.Max, (⟨r12.1.A.Op, r12.1.A.N, r12.1.A.S, r12.1.A.Args⟩ : Expr), (⟨r12.1.B.Op, r12.1.B.N, r12.1.B.S, r12.1.B.Args⟩ : Expr), r12.1.Body, r12.1.Else⟩ : Stmt)) (AllV.nil)) 1 rfl) all_nil))) ?_
       refine AE.tn_ ?_
       refine AWp.rg tt_ok [] (by kernel_rfl) all_nil ?_
       exact AE.bn_ (AE.tn_ ⟨(r12.2.1, (v10 ++ ([(⟨r12.1.Op, r12.1.Name, r12.1.Max, (⟨r12.1.A.Op, r12.1.A.N, r12.1.A.S, r12.1.A.Args⟩ : Expr), (⟨r12.1.B.Op, r12.1.B.N, r12.1.B.S, r12.1.B.Args⟩ : Expr), r12.1.Body, r12.1.Else⟩ : Stmt)] : List Stmt))), by kernel_rfl, h⟩)
     ·refine AWp.exit ?_
      exact AE.tx_ (AE.tx_ (AE.block_hit (AE.tn_ ⟨v9, v10, by kernel_rfl, h⟩)))
   ·clear h
    rintro st' ⟨v16, v17, hr', h⟩
    refine AWp.drop _ _ _ hr' (by kernel_rfl) ?_
    clear hr' st'
    unfold F_f0_j1 at h
    refine AWp.seq ?_
    refine AWp.rg tt_ok [] (by kernel_rfl) all_nil ?_
    refine AE.tn_ ?_
    refine AWp.ret ?_
    obtain rfl := Option.some.inj h
    exact post_ret (by kernel_rfl)
theorem cB_ref10_stmt (n : Nat) (f_f0 : (List Token) → Int → Int → Option ((List Stmt) × Int × Int)) (f_h0 : (List Token) → Int → Int → Option (Stmt × Int × Int)) (f_n0 : (List Token) → Int → Stmt → Int → Option (Stmt × Int × Int)) (f_q0 : (List Token) → Int → Stmt → Int → Option (Stmt × Int × Int)) (i_f0 : ∀ (l : List Token) (at_ : Int) (depth : Int) (r : (List Stmt) × Int × Int), f_f0 l at_ depth = some r → saysOf Tryz.prog 93 [.v (encL 4 enc_Token l), .v (.int .i64 at_), .v (.int .i64 depth)] [] [] (.ret (.tup [.v (encL 13 enc_Stmt r.1), .v (.int .i64 r.2.1), .v (.int .i64 r.2.2)]) none) []) (i_h0 : ∀ (l : List Token) (at_ : Int) (depth : Int) (r : Stmt × Int × Int), f_h0 l at_ depth = some r → saysOf Tryz.prog 135 [.v (encL 4 enc_Token l), .v (.int .i64 at_), .v (.int .i64 depth)] [] [] (.ret (.tup [.v (.agg [.int .i64 r.1.Op, .str r.1.Name, .int .i64 r.1.Max, .int .i64 r.1.A.Op, .int .i64 r.1.A.N, .str r.1.A.S, encL 4 enc_Expr r.1.A.Args, .int .i64 r.1.B.Op, .int .i64 r.1.B.N, .str r.1.B.S, encL 4 enc_Expr r.1.B.Args, encL 13 enc_Stmt r.1.Body, encL 13 enc_Stmt r.1.Else]), .v (.int .i64 r.2.1), .v (.int .i64 r.2.2)]) none) []) (i_n0 : ∀ (l : List Token) (at_ : Int) (s : Stmt) (depth : Int) (r : Stmt × Int × Int), f_n0 l at_ s depth = some r → saysOf Tryz.prog 167 [.v (encL 4 enc_Token l), .v (.int .i64 at_), .v (.agg [.int .i64 s.Op, .str s.Name, .int .i64 s.Max, .int .i64 s.A.Op, .int .i64 s.A.N, .str s.A.S, encL 4 enc_Expr s.A.Args, .int .i64 s.B.Op, .int .i64 s.B.N, .str s.B.S, encL 4 enc_Expr s.B.Args, encL 13 enc_Stmt s.Body, encL 13 enc_Stmt s.Else]), .v (.int .i64 depth)] [] [] (.ret (.tup [.v (.agg [.int .i64 r.1.Op, .str r.1.Name, .int .i64 r.1.Max, .int .i64 r.1.A.Op, .int .i64 r.1.A.N, .str r.1.A.S, encL 4 enc_Expr r.1.A.Args, .int .i64 r.1.B.Op, .int .i64 r.1.B.N, .str r.1.B.S, encL 4 enc_Expr r.1.B.Args, encL 13 enc_Stmt r.1.Body, encL 13 enc_Stmt r.1.Else]), .v (.int .i64 r.2.1), .v (.int .i64 r.2.2)]) none) []) (i_q0 : ∀ (l : List Token) (at_ : Int) (s : Stmt) (depth : Int) (r : Stmt × Int × Int), f_q0 l at_ s depth = some r → saysOf Tryz.prog 168 [.v (encL 4 enc_Token l), .v (.int .i64 at_), .v (.agg [.int .i64 s.Op, .str s.Name, .int .i64 s.Max, .int .i64 s.A.Op, .int .i64 s.A.N, .str s.A.S, encL 4 enc_Expr s.A.Args, .int .i64 s.B.Op, .int .i64 s.B.N, .str s.B.S, encL 4 enc_Expr s.B.Args, encL 13 enc_Stmt s.Body, encL 13 enc_Stmt s.Else]), .v (.int .i64 depth)] [] [] (.ret (.tup [.v (.agg [.int .i64 r.1.Op, .str r.1.Name, .int .i64 r.1.Max, .int .i64 r.1.A.Op, .int .i64 r.1.A.N, .str r.1.A.S, encL 4 enc_Expr r.1.A.Args, .int .i64 r.1.B.Op, .int .i64 r.1.B.N, .str r.1.B.S, encL 4 enc_Expr r.1.B.Args, encL 13 enc_Stmt r.1.Body, encL 13 enc_Stmt r.1.Else]), .v (.int .i64 r.2.1), .v (.int .i64 r.2.2)]) none) []) (l : List Token) (at_ : Int) (depth : Int) (r : Stmt × Int × Int) (h : B_h0 n f_f0 f_h0 f_n0 f_q0 l at_ depth = some r) : saysOf Tryz.prog 135 [.v (encL 4 enc_Token l), .v (.int .i64 at_), .v (.int .i64 depth)] [] [] (.ret (.tup [.v (.agg [.int .i64 r.1.Op, .str r.1.Name, .int .i64 r.1.Max, .int .i64 r.1.A.Op, .int .i64 r.1.A.N, .str r.1.A.S, encL 4 enc_Expr r.1.A.Args, .int .i64 r.1.B.Op, .int .i64 r.1.B.N, .str r.1.B.S, encL 4 enc_Expr r.1.B.Args, encL 13 enc_Stmt r.1.Body, encL 13 enc_Stmt r.1.Else]), .v (.int .i64 r.2.1), .v (.int .i64 r.2.2)]) none) [] := by
 refine sw_ tt_ok Tryz.func135 rfl rfl rfl ?_
 unfold B_h0 at h
 refine AWp.seq ?_
 refine AWp.rg tt_ok [] (by kernel_rfl) all_nil ?_
 refine AE.tn_ ?_
 refine AWp.seq ?_
 obtain ⟨r1, hr1, h⟩ := bind_some h
 have pr1 := c_ax0 n l at_ _ hr1
 refine AWp.rg tt_ok [orn pr1 [], .own] (by kernel_rfl) (all_cons pr1 all_nil) ?_
 refine AE.tn_ ?_
 refine AWp.cut (fun st' => ∃ (v4 : Int) (v5 : Int), restr [0, 1, 2, 6, 9] [0, 1] 2 st'.env st'.H st'.nxt = some ⟨[(0, ⟨.v (encL 4 enc_Token l), none⟩), (1, ⟨.v (.int .i64 v5), none⟩), (2, ⟨.v (.int .i64 depth), none⟩), (6, ⟨.ptr 0 0, none⟩), (9, ⟨.ptr 1 0, none⟩)], [(0, [⟨.v (.int .i64 0), none⟩, ⟨.v (.str ([] : List UInt8)), none⟩, ⟨.v (.int .i64 0), none⟩, ⟨.v (.int .i64 0), none⟩, ⟨.v (.int .i64 0), none⟩, ⟨.v (.str ([] : List UInt8)), none⟩, ⟨.v (encL 4 enc_Expr ([] : List Expr)), none⟩, ⟨.v (.int .i64 0), none⟩, ⟨.v (.int .i64 0), none⟩, ⟨.v (.str ([] : List UInt8)), none⟩, ⟨.v (encL 4 enc_Expr ([] : List Expr)), none⟩, ⟨.v (encL 13 enc_Stmt ([] : List Stmt)), (some 79)⟩, ⟨.v (encL 13 enc_Stmt ([] : List Stmt)), (some 79)⟩]), (1, [⟨.v (.int .i64 v4), none⟩, ⟨.v (.str ([] : List UInt8)), none⟩, ⟨.v (.int .i64 0), none⟩, ⟨.v (.int .i64 0), none⟩, ⟨.v (.int .i64 0), none⟩, ⟨.v (.str ([] : List UInt8)), none⟩, ⟨.v (encL 4 enc_Expr ([] : List Expr)), none⟩, ⟨.v (.int .i64 0), none⟩, ⟨.v (.int .i64 0), none⟩, ⟨.v (.str ([] : List UInt8)), none⟩, ⟨.v (encL 4 enc_Expr ([] : List Expr)), none⟩, ⟨.v (encL 13 enc_Stmt ([] : List Stmt)), (some 79)⟩, ⟨.v (encL 13 enc_Stmt ([] : List Stmt)), (some 79)⟩])], 2⟩ ∧ F_h0_j1 n f_f0 f_h0 f_n0 f_q0 l depth v4 v5 = some r) ?_ ?_
 ·refine AWp.seq ?_
  refine AWp.rg tt_ok [] (by kernel_rfl) all_nil ?_
  refine AE.tn_ ?_
  refine AWp.cnd h (by kernel_rfl) ?_ ?_ <;> clear h <;> intro h
  ·refine AWp.seq ?_
   refine AWp.seq ?_
   obtain ⟨g2, h⟩ := ass_some h
   refine AWp.rg tt_ok [.raw] (by kernel_rfl) (all_cons (orF g2) all_nil) ?_
   refine AE.tn_ ?_
   refine AWp.cnd h (by kernel_rfl) ?_ ?_ <;> clear h <;> intro h
   ·refine AWp.seq ?_
    obtain ⟨r3, hr3, h⟩ := bind_some h
    have pr3 := c_cb0 n l at_ _ hr3
    refine AWp.rgD tt_ok mo_ok [(4, [orn pr3 []])] (by kernel_rfl) (all_cons pr3 all_nil) ?_
    refine AE.tn_ ?_
    refine AWp.ret ?_
    obtain rfl := Option.some.inj h
    exact AE.tr_ (AE.tr_ (post_ret (by kernel_rfl)))
   ·refine AWp.skip ?_
    refine AE.tn_ ?_
    refine AWp.seq ?_
    refine AWp.rg tt_ok [] (by kernel_rfl) all_nil ?_
    refine AE.tn_ ?_
    refine AWp.rg tt_ok [] (by kernel_rfl) all_nil ?_
    exact AE.tn_ ⟨2, (IntKind.i64.wrap (at_ - 1)), by kernel_rfl, h⟩
  ·refine AWp.skip ?_
   exact AE.tn_ ⟨r1, at_, by kernel_rfl, h⟩
 ·clear h
  rintro st' ⟨v4, v5, hr', h⟩
  refine AWp.drop _ _ _ hr' (by kernel_rfl) ?_
  clear hr' st'
  unfold F_h0_j1 at h
  refine AWp.seq ?_
  refine AWp.rg tt_ok [] (by kernel_rfl) all_nil ?_
  refine AE.tn_ ?_
  refine AWp.seq ?_
  refine AWp.rg tt_ok [] (by kernel_rfl) all_nil ?_
  refine AE.tn_ ?_
  refine AWp.cut (fun st' => ∃ (v8 : List UInt8) (v9 : Int), restr [0, 1, 2, 6, 9] [0, 1] 2 st'.env st'.H st'.nxt = some ⟨[(0, ⟨.v (encL 4 enc_Token l), none⟩), (1, ⟨.v (.int .i64 v9), none⟩), (2, ⟨.v (.int .i64 depth), none⟩), (6, ⟨.ptr 0 0, none⟩), (9, ⟨.ptr 1 0, none⟩)], [(0, [⟨.v (.int .i64 0), none⟩, ⟨.v (.str ([] : List UInt8)), none⟩, ⟨.v (.int .i64 0), none⟩, ⟨.v (.int .i64 0), none⟩, ⟨.v (.int .i64 0), none⟩, ⟨.v (.str ([] : List UInt8)), none⟩, ⟨.v (encL 4 enc_Expr ([] : List Expr)), none⟩, ⟨.v (.int .i64 0), none⟩, ⟨.v (.int .i64 0), none⟩, ⟨.v (.str ([] : List UInt8)), none⟩, ⟨.v (encL 4 enc_Expr ([] : List Expr)), none⟩, ⟨.v (encL 13 enc_Stmt ([] : List Stmt)), (some 79)⟩, ⟨.v (encL 13 enc_Stmt ([] : List Stmt)), (some 79)⟩]), (1, [⟨.v (.int .i64 v4), none⟩, ⟨.v (.str v8), none⟩, ⟨.v (.int .i64 0), none⟩, ⟨.v (.int .i64 0), none⟩, ⟨.v (.int .i64 0), none⟩, ⟨.v (.str ([] : List UInt8)), none⟩, ⟨.v (encL 4 enc_Expr ([] : List Expr)), none⟩, ⟨.v (.int .i64 0), none⟩, ⟨.v (.int .i64 0), none⟩, ⟨.v (.str ([] : List UInt8)), none⟩, ⟨.v (encL 4 enc_Expr ([] : List Expr)), none⟩, ⟨.v (encL 13 enc_Stmt ([] : List Stmt)), (some 79)⟩, ⟨.v (encL 13 enc_Stmt ([] : List Stmt)), (some 79)⟩])], 2⟩ ∧ F_h0_j2 n f_f0 f_h0 f_n0 f_q0 l depth v4 v8 v9 = some r) ?_ ?_
  ·refine AWp.seq ?_
   refine AWp.rg tt_ok [] (by kernel_rfl) all_nil ?_
   refine AE.tn_ ?_
   refine AWp.cnd h (by kernel_rfl) ?_ ?_ <;> clear h <;> intro h
   ·refine AWp.seq ?_
    obtain ⟨r6, hr6, h⟩ := bind_some h
    have pr6 := c_by0 n l (IntKind.i64.wrap (v5 + 1)) 1 _ hr6
    refine AWp.rg tt_ok [orn pr6 []] (by kernel_rfl) (all_cons pr6 all_nil) ?_
    refine AE.tn_ ?_
    refine AWp.seq ?_
    refine AWp.seq ?_
    refine AWp.rg tt_ok [] (by kernel_rfl) all_nil ?_
    refine AE.tn_ ?_
    refine AWp.cnd h (by kernel_rfl) ?_ ?_ <;> clear h <;> intro h
    ·refine AWp.seq ?_
     refine AWp.rg tt_ok [] (by kernel_rfl) all_nil ?_
     refine AE.tn_ ?_
     refine AWp.ret ?_
     obtain rfl := Option.some.inj h
     exact AE.tr_ (AE.tr_ (post_ret (by kernel_rfl)))
    ·refine AWp.skip ?_
     refine AE.tn_ ?_
     refine AWp.seq ?_
     refine AWp.rg tt_ok [] (by kernel_rfl) all_nil ?_
     refine AE.tn_ ?_
     refine AWp.seq ?_
     obtain ⟨r7, hr7, h⟩ := bind_some h
     have pr7 := c_af0 n l r6.2.1 ([([61] : List UInt8)] : List (List UInt8)) _ hr7
     refine AWp.rg tt_ok [.val (encL 1 e_str ([([61] : List UInt8)] : List (List UInt8))), orn pr7 []] (by kernel_rfl) (all_cons pr7 (all_cons (vimp_litm (k := 1) (e := e_str) ([([61] : List UInt8)] : List (List UInt8))) all_nil)) ?_
     refine AE.tn_ ?_
     refine AWp.seq ?_
     refine AWp.rg tt_ok [] (by kernel_rfl) all_nil ?_
     refine AE.tn_ ?_
     refine AWp.cnd h (by kernel_rfl) ?_ ?_ <;> clear h <;> intro h
     ·refine AWp.seq ?_
      refine AWp.rg tt_ok [] (by kernel_rfl) all_nil ?_
      refine AE.tn_ ?_
      refine AWp.ret ?_
      obtain rfl := Option.some.inj h
      exact AE.tr_ (post_ret (by kernel_rfl))
     ·refine AWp.skip ?_
      exact AE.tn_ ⟨r6.1.Text, r7.1, by kernel_rfl, h⟩
   ·refine AWp.skip ?_
    exact AE.tn_ ⟨([] : List UInt8), (IntKind.i64.wrap (v5 + 1)), by kernel_rfl, h⟩
  ·clear h
   rintro st' ⟨v8, v9, hr', h⟩
   refine AWp.drop _ _ _ hr' (by kernel_rfl) ?_
   clear hr' st'
   unfold F_h0_j2 at h
   refine AWp.seq ?_
   refine AWp.seq ?_
   refine AWp.rg tt_ok [] (by kernel_rfl) all_nil ?_
   refine AE.tn_ ?_
   refine AWp.cnd h (by kernel_rfl) ?_ ?_ <;> clear h <;> intro h
   ·refine AWp.seq ?_
    obtain ⟨r11, hr11, h⟩ := bind_some h
    have pr11 := i_n0 l v9 (⟨v4, v8, 0, (⟨0, 0, ([] : List UInt8), ([] : List Expr)⟩ : Expr), (⟨0, 0, ([] : List UInt8), ([] : List Expr)⟩ : Expr), ([] : List Stmt), ([] : List Stmt)⟩ : Stmt) depth _ hr11
    refine AWp.rg tt_ok [orn pr11 []] (by kernel_rfl) (all_cons pr11 all_nil) ?_
    refine AE.tn_ ?_
    refine AWp.ret ?_
    obtain rfl := Option.some.inj h
    exact AE.tr_ (post_ret (by kernel_rfl))
   ·refine AWp.skip ?_
    refine AE.tn_ ?_
    refine AWp.seq ?_
    obtain ⟨r12, hr12, h⟩ := bind_some h
    have pr12 := c_i0 n l v9 1 0 _ hr12
    refine AWp.rg tt_ok [orn pr12 []] (by kernel_rfl) (all_cons pr12 all_nil) ?_
    refine AE.tn_ ?_
    refine AWp.seq ?_
    refine AWp.seq ?_
    refine AWp.rg tt_ok [] (by kernel_rfl) all_nil ?_
    refine AE.tn_ ?_
    refine AWp.cnd h (by kernel_rfl) ?_ ?_ <;> clear h <;> intro h
    ·refine AWp.seq ?_
     refine AWp.rg tt_ok [] (by kernel_rfl) all_nil ?_
     refine AE.tn_ ?_
     refine AWp.ret ?_
     obtain rfl := Option.some.inj h
     exact AE.tr_ (post_ret (by kernel_rfl))
    ·refine AWp.skip ?_
     refine AE.tn_ ?_
     refine AWp.cut (fun st' => ∃ (v17 : List Expr) (v18 : Int) (v19 : Int) (v20 : List UInt8) (v21 : Int), restr [0, 1, 2, 6, 9] [0, 1] 2 st'.env st'.H st'.nxt = some ⟨[(0, ⟨.v (encL 4 enc_Token l), none⟩), (1, ⟨.v (.int .i64 v21), none⟩), (2, ⟨.v (.int .i64 depth), none⟩), (6, ⟨.ptr 0 0, none⟩), (9, ⟨.ptr 1 0, none⟩)], [(0, [⟨.v (.int .i64 0), none⟩, ⟨.v (.str ([] : List UInt8)), none⟩, ⟨.v (.int .i64 0), none⟩, ⟨.v (.int .i64 0), none⟩, ⟨.v (.int .i64 0), none⟩, ⟨.v (.str ([] : List UInt8)), none⟩, ⟨.v (encL 4 enc_Expr ([] : List Expr)), none⟩, ⟨.v (.int .i64 0), none⟩, ⟨.v (.int .i64 0), none⟩, ⟨.v (.str ([] : List UInt8)), none⟩, ⟨.v (encL 4 enc_Expr ([] : List Expr)), none⟩, ⟨.v (encL 13 enc_Stmt ([] : List Stmt)), (some 79)⟩, ⟨.v (encL 13 enc_Stmt ([] : List Stmt)), (some 79)⟩]), (1, [⟨.v (.int .i64 v4), none⟩, ⟨.v (.str v8), none⟩, ⟨.v (.int .i64 0), none⟩, ⟨.v (.int .i64 r12.1.Op), none⟩, ⟨.v (.int .i64 r12.1.N), none⟩, ⟨.v (.str r12.1.S), none⟩, ⟨.v (encL 4 enc_Expr r12.1.Args), none⟩, ⟨.v (.int .i64 v18), none⟩, ⟨.v (.int .i64 v19), none⟩, ⟨.v (.str v20), none⟩, ⟨.v (encL 4 enc_Expr v17), none⟩, ⟨.v (encL 13 enc_Stmt ([] : List Stmt)), (some 79)⟩, ⟨.v (encL 13 enc_Stmt ([] : List Stmt)), (some 79)⟩])], 2⟩ ∧ F_h0_j3 n f_f0 f_h0 f_n0 f_q0 l depth v4 v8 r12 v17 v18 v19 v20 v21 = some r) ?_ ?_
     ·refine AWp.seq ?_
      refine AWp.rg tt_ok [] (by kernel_rfl) all_nil ?_
      refine AE.tn_ ?_
      refine AWp.cnd h (by kernel_rfl) ?_ ?_ <;> clear h <;> intro h
      ·refine AWp.seq ?_
       refine AWp.rg tt_ok [] (by kernel_rfl) all_nil ?_
       refine AE.tn_ ?_
       refine AWp.cut (fun st' => ∃ (v14 : List UInt8), restr [0, 1, 2, 6, 9, 14] [0, 1] 2 st'.env st'.H st'.nxt = some ⟨[(0, ⟨.v (encL 4 enc_Token l), none⟩), (1, ⟨.v (.int .i64 r12.2.1), none⟩), (2, ⟨.v (.int .i64 depth), none⟩), (6, ⟨.ptr 0 0, none⟩), (9, ⟨.ptr 1 0, none⟩), (14, ⟨.v (.str v14), none⟩)], [(0, [⟨.v (.int .i64 0), none⟩, ⟨.v (.str ([] : List UInt8)), none⟩, ⟨.v (.int .i64 0), none⟩, ⟨.v (.int .i64 0), none⟩, ⟨.v (.int .i64 0), none⟩, ⟨.v (.str ([] : List UInt8)), none⟩, ⟨.v (encL 4 enc_Expr ([] : List Expr)), none⟩, ⟨.v (.int .i64 0), none⟩, ⟨.v (.int .i64 0), none⟩, ⟨.v (.str ([] : List UInt8)), none⟩, ⟨.v (encL 4 enc_Expr ([] : List Expr)), none⟩, ⟨.v (encL 13 enc_Stmt ([] : List Stmt)), (some 79)⟩, ⟨.v (encL 13 enc_Stmt ([] : List Stmt)), (some 79)⟩]), (1, [⟨.v (.int .i64 v4), none⟩, ⟨.v (.str v8), none⟩, ⟨.v (.int .i64 0), none⟩, ⟨.v (.int .i64 r12.1.Op), none⟩, ⟨.v (.int .i64 r12.1.N), none⟩, ⟨.v (.str r12.1.S), none⟩, ⟨.v (encL 4 enc_Expr r12.1.Args), none⟩, ⟨.v (.int .i64 0), none⟩, ⟨.v (.int .i64 0), none⟩, ⟨.v (.str ([] : List UInt8)), none⟩, ⟨.v (encL 4 enc_Expr ([] : List Expr)), none⟩, ⟨.v (encL 13 enc_Stmt ([] : List Stmt)), (some 79)⟩, ⟨.v (encL 13 enc_Stmt ([] : List Stmt)), (some 79)⟩])], 2⟩ ∧ F_h0_j4 n f_f0 f_h0 f_n0 f_q0 l r12 depth v4 v8 v14 = some r) ?_ ?_
       ·refine AWp.seq ?_
        refine AWp.rg tt_ok [] (by kernel_rfl) all_nil ?_
        refine AE.tn_ ?_
        refine AWp.cnd h (by kernel_rfl) ?_ ?_ <;> clear h <;> intro h
        ·refine AWp.rg tt_ok [] (by kernel_rfl) all_nil ?_
         exact AE.tn_ ⟨([116, 111] : List UInt8), by kernel_rfl, h⟩
        ·refine AWp.skip ?_
         exact AE.tn_ ⟨([61] : List UInt8), by kernel_rfl, h⟩
       ·clear h
        rintro st' ⟨v14, hr', h⟩
        refine AWp.drop _ _ _ hr' (by kernel_rfl) ?_
        clear hr' st'
        unfold F_h0_j4 at h
        refine AWp.seq ?_
        obtain ⟨r15, hr15, h⟩ := bind_some h
        have pr15 := c_af0 n l r12.2.1 ([v14] : List (List UInt8)) _ hr15
        refine AWp.rg tt_ok [.val (encL 1 e_str ([v14] : List (List UInt8))), orn pr15 []] (by kernel_rfl) (all_cons pr15 (all_cons (vimp_litm (k := 1) (e := e_str) ([v14] : List (List UInt8))) all_nil)) ?_
        refine AE.tn_ ?_
        refine AWp.seq ?_
        refine AWp.seq ?_
        refine AWp.rg tt_ok [] (by kernel_rfl) all_nil ?_
        refine AE.tn_ ?_
        refine AWp.cnd h (by kernel_rfl) ?_ ?_ <;> clear h <;> intro h
        ·refine AWp.seq ?_
         refine AWp.rg tt_ok [] (by kernel_rfl) all_nil ?_
         refine AE.tn_ ?_
         refine AWp.ret ?_
         obtain rfl := Option.some.inj h
         exact AE.tr_ (AE.tr_ (post_ret (by kernel_rfl)))
        ·refine AWp.skip ?_
         refine AE.tn_ ?_
         refine AWp.seq ?_
         obtain ⟨r16, hr16, h⟩ := bind_some h
         have pr16 := c_i0 n l r15.1 1 0 _ hr16
         refine AWp.rg tt_ok [orn pr16 []] (by kernel_rfl) (all_cons pr16 all_nil) ?_
         refine AE.tn_ ?_
         refine AWp.seq ?_
         refine AWp.rg tt_ok [] (by kernel_rfl) all_nil ?_
         refine AE.tn_ ?_
         refine AWp.cnd h (by kernel_rfl) ?_ ?_ <;> clear h <;> intro h
         ·refine AWp.seq ?_
          refine AWp.rg tt_ok [] (by kernel_rfl) all_nil ?_
          refine AE.tn_ ?_
          refine AWp.ret ?_
          obtain rfl := Option.some.inj h
          exact AE.tr_ (post_ret (by kernel_rfl))
         ·refine AWp.skip ?_
          exact AE.tn_ ⟨r16.1.Args, r16.1.Op, r16.1.N, r16.1.S, r16.2.1, by kernel_rfl, h⟩
      ·refine AWp.skip ?_
       exact AE.tn_ ⟨([] : List Expr), 0, 0, ([] : List UInt8), r12.2.1, by kernel_rfl, h⟩
     ·clear h
      rintro st' ⟨v17, v18, v19, v20, v21, hr', h⟩
      refine AWp.drop _ _ _ hr' (by kernel_rfl) ?_
      clear hr' st'
      unfold F_h0_j3 at h
      refine AWp.seq ?_
      obtain ⟨r22, hr22, h⟩ := bind_some h
      have pr22 := i_q0 l v21 (⟨v4, v8, 0, r12.1, (⟨v18, v19, v20, v17⟩ : Expr), ([] : List Stmt), ([] : List Stmt)⟩ : Stmt) depth _ hr22
      refine AWp.rg tt_ok [orn pr22 []] (by kernel_rfl) (all_cons pr22 all_nil) ?_
      refine AE.tn_ ?_
      refine AWp.ret ?_
      obtain rfl := Option.some.inj h
      exact post_ret (by kernel_rfl)
theorem cB_ref10_number (n : Nat) (f_f0 : (List Token) → Int → Int → Option ((List Stmt) × Int × Int)) (f_h0 : (List Token) → Int → Int → Option (Stmt × Int × Int)) (f_n0 : (List Token) → Int → Stmt → Int → Option (Stmt × Int × Int)) (f_q0 : (List Token) → Int → Stmt → Int → Option (Stmt × Int × Int)) (i_f0 : ∀ (l : List Token) (at_ : Int) (depth : Int) (r : (List Stmt) × Int × Int), f_f0 l at_ depth = some r → saysOf Tryz.prog 93 [.v (encL 4 enc_Token l), .v (.int .i64 at_), .v (.int .i64 depth)] [] [] (.ret (.tup [.v (encL 13 enc_Stmt r.1), .v (.int .i64 r.2.1), .v (.int .i64 r.2.2)]) none) []) (i_h0 : ∀ (l : List Token) (at_ : Int) (depth : Int) (r : Stmt × Int × Int), f_h0 l at_ depth = some r → saysOf Tryz.prog 135 [.v (encL 4 enc_Token l), .v (.int .i64 at_), .v (.int .i64 depth)] [] [] (.ret (.tup [.v (.agg [.int .i64 r.1.Op, .str r.1.Name, .int .i64 r.1.Max, .int .i64 r.1.A.Op, .int .i64 r.1.A.N, .str r.1.A.S, encL 4 enc_Expr r.1.A.Args, .int .i64 r.1.B.Op, .int .i64 r.1.B.N, .str r.1.B.S, encL 4 enc_Expr r.1.B.Args, encL 13 enc_Stmt r.1.Body, encL 13 enc_Stmt r.1.Else]), .v (.int .i64 r.2.1), .v (.int .i64 r.2.2)]) none) []) (i_n0 : ∀ (l : List Token) (at_ : Int) (s : Stmt) (depth : Int) (r : Stmt × Int × Int), f_n0 l at_ s depth = some r → saysOf Tryz.prog 167 [.v (encL 4 enc_Token l), .v (.int .i64 at_), .v (.agg [.int .i64 s.Op, .str s.Name, .int .i64 s.Max, .int .i64 s.A.Op, .int .i64 s.A.N, .str s.A.S, encL 4 enc_Expr s.A.Args, .int .i64 s.B.Op, .int .i64 s.B.N, .str s.B.S, encL 4 enc_Expr s.B.Args, encL 13 enc_Stmt s.Body, encL 13 enc_Stmt s.Else]), .v (.int .i64 depth)] [] [] (.ret (.tup [.v (.agg [.int .i64 r.1.Op, .str r.1.Name, .int .i64 r.1.Max, .int .i64 r.1.A.Op, .int .i64 r.1.A.N, .str r.1.A.S, encL 4 enc_Expr r.1.A.Args, .int .i64 r.1.B.Op, .int .i64 r.1.B.N, .str r.1.B.S, encL 4 enc_Expr r.1.B.Args, encL 13 enc_Stmt r.1.Body, encL 13 enc_Stmt r.1.Else]), .v (.int .i64 r.2.1), .v (.int .i64 r.2.2)]) none) []) (i_q0 : ∀ (l : List Token) (at_ : Int) (s : Stmt) (depth : Int) (r : Stmt × Int × Int), f_q0 l at_ s depth = some r → saysOf Tryz.prog 168 [.v (encL 4 enc_Token l), .v (.int .i64 at_), .v (.agg [.int .i64 s.Op, .str s.Name, .int .i64 s.Max, .int .i64 s.A.Op, .int .i64 s.A.N, .str s.A.S, encL 4 enc_Expr s.A.Args, .int .i64 s.B.Op, .int .i64 s.B.N, .str s.B.S, encL 4 enc_Expr s.B.Args, encL 13 enc_Stmt s.Body, encL 13 enc_Stmt s.Else]), .v (.int .i64 depth)] [] [] (.ret (.tup [.v (.agg [.int .i64 r.1.Op, .str r.1.Name, .int .i64 r.1.Max, .int .i64 r.1.A.Op, .int .i64 r.1.A.N, .str r.1.A.S, encL 4 enc_Expr r.1.A.Args, .int .i64 r.1.B.Op, .int .i64 r.1.B.N, .str r.1.B.S, encL 4 enc_Expr r.1.B.Args, encL 13 enc_Stmt r.1.Body, encL 13 enc_Stmt r.1.Else]), .v (.int .i64 r.2.1), .v (.int .i64 r.2.2)]) none) []) (l : List Token) (at_ : Int) (s : Stmt) (depth : Int) (r : Stmt × Int × Int) (h : B_n0 n f_f0 f_h0 f_n0 f_q0 l at_ s depth = some r) : saysOf Tryz.prog 167 [.v (encL 4 enc_Token l), .v (.int .i64 at_), .v (.agg [.int .i64 s.Op, .str s.Name, .int .i64 s.Max, .int .i64 s.A.Op, .int .i64 s.A.N, .str s.A.S, encL 4 enc_Expr s.A.Args, .int .i64 s.B.Op, .int .i64 s.B.N, .str s.B.S, encL 4 enc_Expr s.B.Args, encL 13 enc_Stmt s.Body, encL 13 enc_Stmt s.Else]), .v (.int .i64 depth)] [] [] (.ret (.tup [.v (.agg [.int .i64 r.1.Op, .str r.1.Name, .int .i64 r.1.Max, .int .i64 r.1.A.Op, .int .i64 r.1.A.N, .str r.1.A.S, encL 4 enc_Expr r.1.A.Args, .int .i64 r.1.B.Op, .int .i64 r.1.B.N, .str r.1.B.S, encL 4 enc_Expr r.1.B.Args, encL 13 enc_Stmt r.1.Body, encL 13 enc_Stmt r.1.Else]), .v (.int .i64 r.2.1), .v (.int .i64 r.2.2)]) none) [] := by
 refine sw_ tt_ok Tryz.func167 rfl rfl rfl ?_
 unfold B_n0 at h
 refine AWp.seq ?_
 refine AWp.rg tt_ok [] (by kernel_rfl) all_nil ?_
 refine AE.tn_ ?_
 refine AWp.seq ?_
 obtain ⟨r1, hr1, h⟩ := bind_some h
 have pr1 := c_by0 n l at_ 3 _ hr1
 refine AWp.rg tt_ok [orn pr1 []] (by kernel_rfl) (all_cons pr1 all_nil) ?_
 refine AE.tn_ ?_
 refine AWp.seq ?_
 refine AWp.seq ?_
 refine AWp.rg tt_ok [] (by kernel_rfl) all_nil ?_
 refine AE.tn_ ?_
 refine AWp.cnd h (by kernel_rfl) ?_ ?_ <;> clear h <;> intro h
 ·refine AWp.seq ?_
  refine AWp.rg tt_ok [] (by kernel_rfl) all_nil ?_
  refine AE.tn_ ?_
  refine AWp.ret ?_
  obtain rfl := Option.some.inj h
  exact AE.tr_ (post_ret (by kernel_rfl))
 ·refine AWp.skip ?_
  refine AE.tn_ ?_
  refine AWp.seq ?_
  refine AWp.rg tt_ok [] (by kernel_rfl) all_nil ?_
  refine AE.tn_ ?_
  refine AWp.seq ?_
  refine AWp.seq ?_
  refine AWp.rg tt_ok [] (by kernel_rfl) all_nil ?_
  refine AE.tn_ ?_
  refine AWp.cnd h (by kernel_rfl) ?_ ?_ <;> clear h <;> intro h
  ·refine AWp.seq ?_
   obtain ⟨r4, hr4, h⟩ := bind_some h
   have pr4 := c_af0 n l r1.2.1 ([([59] : List UInt8)] : List (List UInt8)) _ hr4
   refine AWp.rg tt_ok [.val (encL 1 e_str ([([59] : List UInt8)] : List (List UInt8))), orn pr4 []] (by kernel_rfl) (all_cons pr4 (all_cons (vimp_litm (k := 1) (e := e_str) ([([59] : List UInt8)] : List (List UInt8))) all_nil)) ?_
   refine AE.tn_ ?_
   refine AWp.seq ?_
   refine AWp.rg tt_ok [] (by kernel_rfl) all_nil ?_
   refine AE.tn_ ?_
   refine AWp.ret ?_
   obtain rfl := Option.some.inj h
   exact AE.tr_ (post_ret (by kernel_rfl))
  ·refine AWp.skip ?_
   refine AE.tn_ ?_
   refine AWp.seq ?_
   obtain ⟨r5, hr5, h⟩ := bind_some h
   have pr5 := i_f0 l r1.2.1 (IntKind.i64.wrap (depth + 1)) _ hr5
   refine AWp.rg tt_ok [orn pr5 []] (by kernel_rfl) (all_cons pr5 all_nil) ?_
   refine AE.tn_ ?_
   refine AWp.seq ?_
   refine AWp.rg tt_ok [] (by kernel_rfl) all_nil ?_
   refine AE.tn_ ?_
   refine AWp.ret ?_
   obtain rfl := Option.some.inj h
   exact post_ret (by kernel_rfl)
theorem cB_ref10_rest (n : Nat) (f_f0 : (List Token) → Int → Int → Option ((List Stmt) × Int × Int)) (f_h0 : (List Token) → Int → Int → Option (Stmt × Int × Int)) (f_n0 : (List Token) → Int → Stmt → Int → Option (Stmt × Int × Int)) (f_q0 : (List Token) → Int → Stmt → Int → Option (Stmt × Int × Int)) (i_f0 : ∀ (l : List Token) (at_ : Int) (depth : Int) (r : (List Stmt) × Int × Int), f_f0 l at_ depth = some r → saysOf Tryz.prog 93 [.v (encL 4 enc_Token l), .v (.int .i64 at_), .v (.int .i64 depth)] [] [] (.ret (.tup [.v (encL 13 enc_Stmt r.1), .v (.int .i64 r.2.1), .v (.int .i64 r.2.2)]) none) []) (i_h0 : ∀ (l : List Token) (at_ : Int) (depth : Int) (r : Stmt × Int × Int), f_h0 l at_ depth = some r → saysOf Tryz.prog 135 [.v (encL 4 enc_Token l), .v (.int .i64 at_), .v (.int .i64 depth)] [] [] (.ret (.tup [.v (.agg [.int .i64 r.1.Op, .str r.1.Name, .int .i64 r.1.Max, .int .i64 r.1.A.Op, .int .i64 r.1.A.N, .str r.1.A.S, encL 4 enc_Expr r.1.A.Args, .int .i64 r.1.B.Op, .int .i64 r.1.B.N, .str r.1.B.S, encL 4 enc_Expr r.1.B.Args, encL 13 enc_Stmt r.1.Body, encL 13 enc_Stmt r.1.Else]), .v (.int .i64 r.2.1), .v (.int .i64 r.2.2)]) none) []) (i_n0 : ∀ (l : List Token) (at_ : Int) (s : Stmt) (depth : Int) (r : Stmt × Int × Int), f_n0 l at_ s depth = some r → saysOf Tryz.prog 167 [.v (encL 4 enc_Token l), .v (.int .i64 at_), .v (.agg [.int .i64 s.Op, .str s.Name, .int .i64 s.Max, .int .i64 s.A.Op, .int .i64 s.A.N, .str s.A.S, encL 4 enc_Expr s.A.Args, .int .i64 s.B.Op, .int .i64 s.B.N, .str s.B.S, encL 4 enc_Expr s.B.Args, encL 13 enc_Stmt s.Body, encL 13 enc_Stmt s.Else]), .v (.int .i64 depth)] [] [] (.ret (.tup [.v (.agg [.int .i64 r.1.Op, .str r.1.Name, .int .i64 r.1.Max, .int .i64 r.1.A.Op, .int .i64 r.1.A.N, .str r.1.A.S, encL 4 enc_Expr r.1.A.Args, .int .i64 r.1.B.Op, .int .i64 r.1.B.N, .str r.1.B.S, encL 4 enc_Expr r.1.B.Args, encL 13 enc_Stmt r.1.Body, encL 13 enc_Stmt r.1.Else]), .v (.int .i64 r.2.1), .v (.int .i64 r.2.2)]) none) []) (i_q0 : ∀ (l : List Token) (at_ : Int) (s : Stmt) (depth : Int) (r : Stmt × Int × Int), f_q0 l at_ s depth = some r → saysOf Tryz.prog 168 [.v (encL 4 enc_Token l), .v (.int .i64 at_), .v (.agg [.int .i64 s.Op, .str s.Name, .int .i64 s.Max, .int .i64 s.A.Op, .int .i64 s.A.N, .str s.A.S, encL 4 enc_Expr s.A.Args, .int .i64 s.B.Op, .int .i64 s.B.N, .str s.B.S, encL 4 enc_Expr s.B.Args, encL 13 enc_Stmt s.Body, encL 13 enc_Stmt s.Else]), .v (.int .i64 depth)] [] [] (.ret (.tup [.v (.agg [.int .i64 r.1.Op, .str r.1.Name, .int .i64 r.1.Max, .int .i64 r.1.A.Op, .int .i64 r.1.A.N, .str r.1.A.S, encL 4 enc_Expr r.1.A.Args, .int .i64 r.1.B.Op, .int .i64 r.1.B.N, .str r.1.B.S, encL 4 enc_Expr r.1.B.Args, encL 13 enc_Stmt r.1.Body, encL 13 enc_Stmt r.1.Else]), .v (.int .i64 r.2.1), .v (.int .i64 r.2.2)]) none) []) (l : List Token) (at_ : Int) (s : Stmt) (depth : Int) (r : Stmt × Int × Int) (h : B_q0 n f_f0 f_h0 f_n0 f_q0 l at_ s depth = some r) : saysOf Tryz.prog 168 [.v (encL 4 enc_Token l), .v (.int .i64 at_), .v (.agg [.int .i64 s.Op, .str s.Name, .int .i64 s.Max, .int .i64 s.A.Op, .int .i64 s.A.N, .str s.A.S, encL 4 enc_Expr s.A.Args, .int .i64 s.B.Op, .int .i64 s.B.N, .str s.B.S, encL 4 enc_Expr s.B.Args, encL 13 enc_Stmt s.Body, encL 13 enc_Stmt s.Else]), .v (.int .i64 depth)] [] [] (.ret (.tup [.v (.agg [.int .i64 r.1.Op, .str r.1.Name, .int .i64 r.1.Max, .int .i64 r.1.A.Op, .int .i64 r.1.A.N, .str r.1.A.S, encL 4 enc_Expr r.1.A.Args, .int .i64 r.1.B.Op, .int .i64 r.1.B.N, .str r.1.B.S, encL 4 enc_Expr r.1.B.Args, encL 13 enc_Stmt r.1.Body, encL 13 enc_Stmt r.1.Else]), .v (.int .i64 r.2.1), .v (.int .i64 r.2.2)]) none) [] := by
 refine sw_ tt_ok Tryz.func168 rfl rfl rfl ?_
 unfold B_q0 at h
 refine AWp.seq ?_
 refine AWp.rg tt_ok [] (by kernel_rfl) all_nil ?_
 refine AE.tn_ ?_
 refine AWp.seq ?_
 refine AWp.rg tt_ok [] (by kernel_rfl) all_nil ?_
 refine AE.tn_ ?_
 refine AWp.seq ?_
 refine AWp.seq ?_
 refine AWp.rg tt_ok [] (by kernel_rfl) all_nil ?_
 refine AE.tn_ ?_
 refine AWp.block ?_
 refine AWp.seq ?_
 refine AWp.rg tt_ok [] (by kernel_rfl) all_nil ?_
 refine AE.tn_ ?_
 refine AWp.cnd h (by kernel_rfl) ?_ ?_ <;> clear h <;> intro h
 ·refine AWp.seq ?_
  obtain ⟨r2, hr2, h⟩ := bind_some h
  have pr2 := c_af0 n l at_ ([([109, 97, 120] : List UInt8)] : List (List UInt8)) _ hr2
  refine AWp.rg tt_ok [.val (encL 1 e_str ([([109, 97, 120] : List UInt8)] : List (List UInt8))), orn pr2 []] (by kernel_rfl) (all_cons pr2 (all_cons (vimp_litm (k := 1) (e := e_str) ([([109, 97, 120] : List UInt8)] : List (List UInt8))) all_nil)) ?_
  refine AE.tn_ ?_
  refine AWp.seq ?_
  refine AWp.seq ?_
  refine AWp.rg tt_ok [] (by kernel_rfl) all_nil ?_
  refine AE.tn_ ?_
  refine AWp.cnd h (by kernel_rfl) ?_ ?_ <;> clear h <;> intro h
  ·refine AWp.seq ?_
   refine AWp.rg tt_ok [] (by kernel_rfl) all_nil ?_
   refine AE.tn_ ?_
   refine AWp.ret ?_
   obtain rfl := Option.some.inj h
   exact AE.tr_ (AE.br_ (AE.tr_ (post_ret (by kernel_rfl))))
  ·refine AWp.skip ?_
   refine AE.tn_ ?_
   refine AWp.seq ?_
   obtain ⟨r4, hr4, h⟩ := bind_some h
   have pr4 := i_n0 l r2.1 (⟨s.Op, s.Name, s.Max, (⟨s.A.Op, s.A.N, s.A.S, s.A.Args⟩ : Expr), (⟨s.B.Op, s.B.N, s.B.S, s.B.Args⟩ : Expr), s.Body, s.Else⟩ : Stmt) depth _ hr4
   refine AWp.rg tt_ok [orn pr4 []] (by kernel_rfl) (all_cons pr4 all_nil) ?_
   refine AE.tn_ ?_
   refine AWp.ret ?_
   obtain rfl := Option.some.inj h
   exact AE.br_ (AE.tr_ (post_ret (by kernel_rfl)))
 ·refine AWp.seq ?_
  refine AWp.rg tt_ok [] (by kernel_rfl) all_nil ?_
  refine AE.tn_ ?_
  refine AWp.cnd h (by kernel_rfl) ?_ ?_ <;> clear h <;> intro h
  ·refine AWp.seq ?_
   obtain ⟨r6, hr6, h⟩ := bind_some h
   have pr6 := i_f0 l at_ (IntKind.i64.wrap (depth + 1)) _ hr6
   refine AWp.rg tt_ok [orn pr6 []] (by kernel_rfl) (all_cons pr6 all_nil) ?_
   refine AE.tn_ ?_
   refine AWp.cut (fun st' => ∃ (v9 : List Stmt) (v10 : Int) (v11 : Int), restr [1, 6, 8, 11] [0, 1] 2 st'.env st'.H st'.nxt = some ⟨[(1, ⟨.v (.int .i64 v10), none⟩), (6, ⟨.ptr 0 0, none⟩), (8, ⟨.ptr 1 0, none⟩), (11, ⟨.v (.int .i64 v11), none⟩)], [(0, [⟨.v (.int .i64 s.Op), none⟩, ⟨.v (.str s.Name), none⟩, ⟨.v (.int .i64 s.Max), none⟩, ⟨.v (.int .i64 s.A.Op), none⟩, ⟨.v (.int .i64 s.A.N), none⟩, ⟨.v (.str s.A.S), none⟩, ⟨.v (encL 4 enc_Expr s.A.Args), none⟩, ⟨.v (.int .i64 s.B.Op), none⟩, ⟨.v (.int .i64 s.B.N), none⟩, ⟨.v (.str s.B.S), none⟩, ⟨.v (encL 4 enc_Expr s.B.Args), none⟩, ⟨.v (encL 13 enc_Stmt r6.1), none⟩, ⟨.v (encL 13 enc_Stmt v9), none⟩]), (1, [⟨.v (.int .i64 0), none⟩, ⟨.v (.str ([] : List UInt8)), none⟩, ⟨.v (.int .i64 0), none⟩, ⟨.v (.int .i64 0), none⟩, ⟨.v (.int .i64 0), none⟩, ⟨.v (.str ([] : List UInt8)), none⟩, ⟨.v (encL 4 enc_Expr ([] : List Expr)), none⟩, ⟨.v (.int .i64 0), none⟩, ⟨.v (.int .i64 0), none⟩, ⟨.v (.str ([] : List UInt8)), none⟩, ⟨.v (encL 4 enc_Expr ([] : List Expr)), none⟩, ⟨.v (encL 13 enc_Stmt ([] : List Stmt)), (some 79)⟩, ⟨.v (encL 13 enc_Stmt ([] : List Stmt)), (some 79)⟩])], 2⟩ ∧ F_q0_j1 n f_f0 f_h0 f_n0 f_q0 s r6 v9 v10 v11 = some r) ?_ ?_
   ·refine AWp.seq ?_
    obtain ⟨r7, hr7, h⟩ := bind_some h
    have pr7 := fun c1 => c_az0 n l r6.2.1 ([101, 108, 115, 101] : List UInt8) _ (cond_t c1 hr7)
    refine AWp.rg tt_ok [orn1 pr7] (by kernel_rfl) (all_cons pr7 all_nil) ?_
    refine AE.tn_ ?_
    refine AWp.cnd h (by kernel_rfl) ?_ ?_ <;> clear h <;> intro h
    ·obtain ⟨r8, hr8, h⟩ := bind_some h
     have pr8 := i_f0 l (IntKind.i64.wrap (r6.2.1 + 1)) (IntKind.i64.wrap (depth + 1)) _ hr8
     refine AWp.rg tt_ok [orn pr8 []] (by kernel_rfl) (all_cons pr8 all_nil) ?_
     exact AE.tn_ ⟨r8.1, r8.2.1, r8.2.2, by kernel_rfl, h⟩
    ·refine AWp.skip ?_
     exact AE.tn_ ⟨s.Else, r6.2.1, r6.2.2, by kernel_rfl, h⟩
   ·clear h
    rintro st' ⟨v9, v10, v11, hr', h⟩
    refine AWp.drop _ _ _ hr' (by kernel_rfl) ?_
    clear hr' st'
    unfold F_q0_j1 at h
    refine AWp.seq ?_
    refine AWp.rg tt_ok [] (by kernel_rfl) all_nil ?_
    refine AE.tn_ ?_
    refine AWp.ret ?_
    obtain rfl := Option.some.inj h
    exact AE.br_ (AE.tr_ (post_ret (by kernel_rfl)))
  ·refine AWp.skip ?_
   refine AE.bn_ (AE.tn_ ?_)
   refine AWp.seq ?_
   obtain ⟨r13, hr13, h⟩ := bind_some h
   have pr13 := c_af0 n l at_ ([([59] : List UInt8)] : List (List UInt8)) _ hr13
   refine AWp.rg tt_ok [.val (encL 1 e_str ([([59] : List UInt8)] : List (List UInt8))), orn pr13 []] (by kernel_rfl) (all_cons pr13 (all_cons (vimp_litm (k := 1) (e := e_str) ([([59] : List UInt8)] : List (List UInt8))) all_nil)) ?_
   refine AE.tn_ ?_
   refine AWp.seq ?_
   refine AWp.rg tt_ok [] (by kernel_rfl) all_nil ?_
   refine AE.tn_ ?_
   refine AWp.ret ?_
   obtain rfl := Option.some.inj h
   exact post_ret (by kernel_rfl)
theorem cS_f0 (n : Nat) : (∀ (l : List Token) (at_ : Int) (depth : Int) (r : (List Stmt) × Int × Int), F_f0 n l at_ depth = some r → saysOf Tryz.prog 93 [.v (encL 4 enc_Token l), .v (.int .i64 at_), .v (.int .i64 depth)] [] [] (.ret (.tup [.v (encL 13 enc_Stmt r.1), .v (.int .i64 r.2.1), .v (.int .i64 r.2.2)]) none) []) ∧ (∀ (l : List Token) (at_ : Int) (depth : Int) (r : Stmt × Int × Int), F_h0 n l at_ depth = some r → saysOf Tryz.prog 135 [.v (encL 4 enc_Token l), .v (.int .i64 at_), .v (.int .i64 depth)] [] [] (.ret (.tup [.v (.agg [.int .i64 r.1.Op, .str r.1.Name, .int .i64 r.1.Max, .int .i64 r.1.A.Op, .int .i64 r.1.A.N, .str r.1.A.S, encL 4 enc_Expr r.1.A.Args, .int .i64 r.1.B.Op, .int .i64 r.1.B.N, .str r.1.B.S, encL 4 enc_Expr r.1.B.Args, encL 13 enc_Stmt r.1.Body, encL 13 enc_Stmt r.1.Else]), .v (.int .i64 r.2.1), .v (.int .i64 r.2.2)]) none) []) ∧ (∀ (l : List Token) (at_ : Int) (s : Stmt) (depth : Int) (r : Stmt × Int × Int), F_n0 n l at_ s depth = some r → saysOf Tryz.prog 167 [.v (encL 4 enc_Token l), .v (.int .i64 at_), .v (.agg [.int .i64 s.Op, .str s.Name, .int .i64 s.Max, .int .i64 s.A.Op, .int .i64 s.A.N, .str s.A.S, encL 4 enc_Expr s.A.Args, .int .i64 s.B.Op, .int .i64 s.B.N, .str s.B.S, encL 4 enc_Expr s.B.Args, encL 13 enc_Stmt s.Body, encL 13 enc_Stmt s.Else]), .v (.int .i64 depth)] [] [] (.ret (.tup [.v (.agg [.int .i64 r.1.Op, .str r.1.Name, .int .i64 r.1.Max, .int .i64 r.1.A.Op, .int .i64 r.1.A.N, .str r.1.A.S, encL 4 enc_Expr r.1.A.Args, .int .i64 r.1.B.Op, .int .i64 r.1.B.N, .str r.1.B.S, encL 4 enc_Expr r.1.B.Args, encL 13 enc_Stmt r.1.Body, encL 13 enc_Stmt r.1.Else]), .v (.int .i64 r.2.1), .v (.int .i64 r.2.2)]) none) []) ∧ (∀ (l : List Token) (at_ : Int) (s : Stmt) (depth : Int) (r : Stmt × Int × Int), F_q0 n l at_ s depth = some r → saysOf Tryz.prog 168 [.v (encL 4 enc_Token l), .v (.int .i64 at_), .v (.agg [.int .i64 s.Op, .str s.Name, .int .i64 s.Max, .int .i64 s.A.Op, .int .i64 s.A.N, .str s.A.S, encL 4 enc_Expr s.A.Args, .int .i64 s.B.Op, .int .i64 s.B.N, .str s.B.S, encL 4 enc_Expr s.B.Args, encL 13 enc_Stmt s.Body, encL 13 enc_Stmt s.Else]), .v (.int .i64 depth)] [] [] (.ret (.tup [.v (.agg [.int .i64 r.1.Op, .str r.1.Name, .int .i64 r.1.Max, .int .i64 r.1.A.Op, .int .i64 r.1.A.N, .str r.1.A.S, encL 4 enc_Expr r.1.A.Args, .int .i64 r.1.B.Op, .int .i64 r.1.B.N, .str r.1.B.S, encL 4 enc_Expr r.1.B.Args, encL 13 enc_Stmt r.1.Body, encL 13 enc_Stmt r.1.Else]), .v (.int .i64 r.2.1), .v (.int .i64 r.2.2)]) none) []) := by
 induction n with
 | zero => exact ⟨fun l at_ depth r h => (by have h2 : (none : Option _) = some r := h; cases h2), fun l at_ depth r h => (by have h2 : (none : Option _) = some r := h; cases h2), fun l at_ s depth r h => (by have h2 : (none : Option _) = some r := h; cases h2), fun l at_ s depth r h => (by have h2 : (none : Option _) = some r := h; cases h2)⟩
 | succ m ih => exact ⟨fun l at_ depth r h => cB_ref10_block m (F_f0 m) (F_h0 m) (F_n0 m) (F_q0 m) ih.1 ih.2.1 ih.2.2.1 ih.2.2.2 l at_ depth r h, fun l at_ depth r h => cB_ref10_stmt m (F_f0 m) (F_h0 m) (F_n0 m) (F_q0 m) ih.1 ih.2.1 ih.2.2.1 ih.2.2.2 l at_ depth r h, fun l at_ s depth r h => cB_ref10_number m (F_f0 m) (F_h0 m) (F_n0 m) (F_q0 m) ih.1 ih.2.1 ih.2.2.1 ih.2.2.2 l at_ s depth r h, fun l at_ s depth r h => cB_ref10_rest m (F_f0 m) (F_h0 m) (F_n0 m) (F_q0 m) ih.1 ih.2.1 ih.2.2.1 ih.2.2.2 l at_ s depth r h⟩
theorem c_f0 (n : Nat) (l : List Token) (at_ : Int) (depth : Int) (r : (List Stmt) × Int × Int) (h : F_f0 n l at_ depth = some r) : saysOf Tryz.prog 93 [.v (encL 4 enc_Token l), .v (.int .i64 at_), .v (.int .i64 depth)] [] [] (.ret (.tup [.v (encL 13 enc_Stmt r.1), .v (.int .i64 r.2.1), .v (.int .i64 r.2.2)]) none) [] := (cS_f0 n).1 l at_ depth r h
theorem c_ar0 (n : Nat) (l : List Token) (at_ : Int) (r : (List Param) × Int × Int) (h : F_ar0 n l at_ = some r) : saysOf Tryz.prog 92 [.v (encL 4 enc_Token l), .v (.int .i64 at_)] [] [] (.ret (.tup [.v (encL 2 enc_Param r.1), .v (.int .i64 r.2.1), .v (.int .i64 r.2.2)]) none) [] := by
 refine sw_ tt_ok Tryz.func92 rfl rfl rfl ?_
 unfold F_ar0 at h
 refine AWp.seq ?_
 refine AWp.rg tt_ok [] (by kernel_rfl) all_nil ?_
 refine AE.tn_ ?_
 refine AWp.seq ?_
 refine AWp.rg tt_ok [] (by kernel_rfl) all_nil ?_
 refine AE.tn_ ?_
 refine AWp.seq ?_
 refine AWp.seq ?_
 obtain ⟨r1, hr1, h⟩ := bind_some h
 have pr1 := c_az0 n l at_ ([41] : List UInt8) _ hr1
 refine AWp.rg tt_ok [orn pr1 []] (by kernel_rfl) (all_cons pr1 all_nil) ?_
 refine AE.tn_ ?_
 refine AWp.cnd h (by kernel_rfl) ?_ ?_ <;> clear h <;> intro h
 ·refine AWp.seq ?_
  refine AWp.rg tt_ok [] (by kernel_rfl) all_nil ?_
  refine AE.tn_ ?_
  refine AWp.ret ?_
  obtain rfl := Option.some.inj h
  exact AE.tr_ (post_ret (by kernel_rfl))
 ·refine AWp.skip ?_
  refine AE.tn_ ?_
  refine AWp.block ?_
  refine AWp.loop (σ := Int × (List Param)) (fun zm zs zst => restr [0, 1, 7] [] 0 zst.env zst.H zst.nxt = some ⟨[(0, ⟨.v (encL 4 enc_Token l), none⟩), (1, ⟨.v (.int .i64 zs.1), none⟩), (7, ⟨.v (encL 2 enc_Param zs.2), (some 68)⟩)], [], 0⟩ ∧ F_ar0_l1 n l zm zs.1 zs.2 = some r) ?_ (n := n) (s := (at_, ([] : List Param))) ⟨by kernel_rfl, h⟩
  clear h
  rintro m1 ⟨v15, v16⟩ st' ⟨hr', h⟩
  cases m1 with
  | zero =>
   have h2 : (none : Option _) = some r := h
   cases h2
  | succ m1 =>
   refine ⟨m1, rfl, AWp.drop _ _ _ hr' (by kernel_rfl) ?_⟩
   clear hr' st'
   replace h : F_ar0_b1 n l (F_ar0_l1 n l m1) v15 v16 = some r := h
   unfold F_ar0_b1 at h
   refine AWp.block ?_
   refine AWp.seq ?_
   obtain ⟨r17, hr17, h⟩ := bind_some h
   have pr17 := c_by0 n l v15 1 _ hr17
   refine AWp.rg tt_ok [orn pr17 []] (by kernel_rfl) (all_cons pr17 all_nil) ?_
   refine AE.tn_ ?_
   refine AWp.seq ?_
   refine AWp.seq ?_
   refine AWp.rg tt_ok [] (by kernel_rfl) all_nil ?_
   refine AE.tn_ ?_
   refine AWp.cnd h (by kernel_rfl) ?_ ?_ <;> clear h <;> intro h
   ·refine AWp.seq ?_
    refine AWp.rg tt_ok [] (by kernel_rfl) all_nil ?_
    refine AE.tn_ ?_
    refine AWp.ret ?_
    obtain rfl := Option.some.inj h
    exact AE.tr_ (AE.br_ (AE.tr_ (AE.br_ (post_ret (by kernel_rfl)))))
   ·refine AWp.skip ?_
    refine AE.tn_ ?_
    refine AWp.seq ?_
    obtain ⟨r18, hr18, h⟩ := bind_some h
    have pr18 := c_af0 n l r17.2.1 ([([58] : List UInt8)] : List (List UInt8)) _ hr18
    refine AWp.rg tt_ok [.val (encL 1 e_str ([([58] : List UInt8)] : List (List UInt8))), orn pr18 []] (by kernel_rfl) (all_cons pr18 (all_cons (vimp_litm (k := 1) (e := e_str) ([([58] : List UInt8)] : List (List UInt8))) all_nil)) ?_
    refine AE.tn_ ?_
    refine AWp.seq ?_
    refine AWp.seq ?_
    refine AWp.rg tt_ok [] (by kernel_rfl) all_nil ?_
    refine AE.tn_ ?_
    refine AWp.cnd h (by kernel_rfl) ?_ ?_ <;> clear h <;> intro h
    ·refine AWp.seq ?_
     refine AWp.rg tt_ok [] (by kernel_rfl) all_nil ?_
     refine AE.tn_ ?_
     refine AWp.ret ?_
     obtain rfl := Option.some.inj h
     exact AE.tr_ (AE.br_ (AE.tr_ (AE.br_ (post_ret (by kernel_rfl)))))
    ·refine AWp.skip ?_
     refine AE.tn_ ?_
     refine AWp.seq ?_
     refine AWp.rg tt_ok [] (by kernel_rfl) all_nil ?_
     refine AE.tn_ ?_
     refine AWp.cut (fun st' => ∃ (v23 : Int), restr [0, 1, 7, 11] [1] 2 st'.env st'.H st'.nxt = some ⟨[(0, ⟨.v (encL 4 enc_Token l), none⟩), (1, ⟨.v (.int .i64 r18.1), none⟩), (7, ⟨.v (encL 2 enc_Param v16), (some 68)⟩), (11, ⟨.ptr 1 0, none⟩)], [(1, [⟨.v (.str r17.1.Text), none⟩, ⟨.v (.int .i64 v23), none⟩])], 2⟩ ∧ F_ar0_j2 n (F_ar0_l1 n l m1) l r18 v16 r17 v23 = some r) ?_ ?_
     ·refine AWp.block ?_
      refine AWp.seq ?_
      obtain ⟨r19, hr19, h⟩ := bind_some h
      have pr19 := c_az0 n l r18.1 ([105, 110, 116] : List UInt8) _ hr19
      refine AWp.rg tt_ok [orn pr19 []] (by kernel_rfl) (all_cons pr19 all_nil) ?_
      refine AE.tn_ ?_
      refine AWp.cnd h (by kernel_rfl) ?_ ?_ <;> clear h <;> intro h
      ·refine AWp.rg tt_ok [] (by kernel_rfl) all_nil ?_
       exact AE.bn_ (AE.tn_ ⟨1, by kernel_rfl, h⟩)
      ·refine AWp.seq ?_
       obtain ⟨r20, hr20, h⟩ := bind_some h
       have pr20 := c_az0 n l r18.1 ([115, 116, 114] : List UInt8) _ hr20
       refine AWp.rg tt_ok [orn pr20 []] (by kernel_rfl) (all_cons pr20 all_nil) ?_
       refine AE.tn_ ?_
       refine AWp.cnd h (by kernel_rfl) ?_ ?_ <;> clear h <;> intro h
       ·refine AWp.rg tt_ok [] (by kernel_rfl) all_nil ?_
        exact AE.bn_ (AE.tn_ ⟨2, by kernel_rfl, h⟩)
       ·refine AWp.seq ?_
        obtain ⟨r21, hr21, h⟩ := bind_some h
        have pr21 := c_az0 n l r18.1 ([98, 111, 111, 108] : List UInt8) _ hr21
        refine AWp.rg tt_ok [orn pr21 []] (by kernel_rfl) (all_cons pr21 all_nil) ?_
        refine AE.tn_ ?_
        refine AWp.cnd h (by kernel_rfl) ?_ ?_ <;> clear h <;> intro h
        ·refine AWp.rg tt_ok [] (by kernel_rfl) all_nil ?_
         exact AE.bn_ (AE.tn_ ⟨3, by kernel_rfl, h⟩)
        ·refine AWp.seq ?_
         obtain ⟨r22, hr22, h⟩ := bind_some h
         have pr22 := c_cb0 n l r18.1 _ hr22
         refine AWp.rg tt_ok [orn pr22 []] (by kernel_rfl) (all_cons pr22 all_nil) ?_
         refine AE.tn_ ?_
         refine AWp.ret ?_
         obtain rfl := Option.some.inj h
         exact AE.br_ (AE.tr_ (AE.br_ (AE.tr_ (AE.br_ (post_ret (by kernel_rfl))))))
     ·clear h
      rintro st' ⟨v23, hr', h⟩
      refine AWp.drop _ _ _ hr' (by kernel_rfl) ?_
      clear hr' st'
      unfold F_ar0_j2 at h
      refine AWp.seq ?_
      obtain ⟨g24, h⟩ := ass_some h
      refine AWp.rg tt_ok [.val (encL 2 enc_Param ([(⟨r17.1.Text, v23⟩ : Param)] : List Param)), .val (encL 2 enc_Param (v16 ++ ([(⟨r17.1.Text, v23⟩ : Param)] : List Param)))] (by kernel_rfl) (all_cons (vimp_app (k := 2) (e := enc_Param) v16 ([(⟨r17.1.Text, v23⟩ : Param)] : List Param)) (all_cons g24 (all_cons (vimp_litm (k := 2) (e := enc_Param) ([(⟨r17.1.Text, v23⟩ : Param)] : List Param)) all_nil))) ?_
      refine AE.tn_ ?_
      refine AWp.seq ?_
      refine AWp.rg tt_ok [] (by kernel_rfl) all_nil ?_
      refine AE.tn_ ?_
      refine AWp.seq ?_
      refine AWp.seq ?_
      obtain ⟨r25, hr25, h⟩ := bind_some h
      have pr25 := c_az0 n l (IntKind.i64.wrap (r18.1 + 1)) ([41] : List UInt8) _ hr25
      refine AWp.rg tt_ok [orn pr25 []] (by kernel_rfl) (all_cons pr25 all_nil) ?_
      refine AE.tn_ ?_
      refine AWp.cnd h (by kernel_rfl) ?_ ?_ <;> clear h <;> intro h
      ·refine AWp.seq ?_
       refine AWp.rg tt_ok [] (by kernel_rfl) all_nil ?_
       refine AE.tn_ ?_
       refine AWp.ret ?_
       obtain rfl := Option.some.inj h
       exact AE.tr_ (AE.br_ (AE.tr_ (AE.br_ (post_ret (by kernel_rfl)))))
      ·refine AWp.skip ?_
       refine AE.tn_ ?_
       refine AWp.seq ?_
       obtain ⟨r26, hr26, h⟩ := bind_some h
       have pr26 := c_af0 n l (IntKind.i64.wrap (r18.1 + 1)) ([([44] : List UInt8)] : List (List UInt8)) _ hr26
       refine AWp.rg tt_ok [.val (encL 1 e_str ([([44] : List UInt8)] : List (List UInt8))), orn pr26 []] (by kernel_rfl) (all_cons pr26 (all_cons (vimp_litm (k := 1) (e := e_str) ([([44] : List UInt8)] : List (List UInt8))) all_nil)) ?_
       refine AE.tn_ ?_
       refine AWp.seq ?_
       refine AWp.rg tt_ok [] (by kernel_rfl) all_nil ?_
       refine AE.tn_ ?_
       refine AWp.cnd h (by kernel_rfl) ?_ ?_ <;> clear h <;> intro h
       ·refine AWp.seq ?_
        refine AWp.rg tt_ok [] (by kernel_rfl) all_nil ?_
        refine AE.tn_ ?_
        refine AWp.ret ?_
        obtain rfl := Option.some.inj h
        exact AE.br_ (AE.tr_ (AE.br_ (post_ret (by kernel_rfl))))
       ·refine AWp.skip ?_
        exact AE.bn_ (AE.tn_ ⟨(r26.1, (v16 ++ ([(⟨r17.1.Text, v23⟩ : Param)] : List Param))), by kernel_rfl, h⟩)
theorem c_de0 (n : Nat) (l : List Token) (at_ : Int) (r : Proc × Int × Int) (h : F_de0 n l at_ = some r) : saysOf Tryz.prog 41 [.v (encL 4 enc_Token l), .v (.int .i64 at_)] [] [] (.ret (.tup [.v (.agg [.str r.1.Name, encL 2 enc_Param r.1.Params, encL 13 enc_Stmt r.1.Body]), .v (.int .i64 r.2.1), .v (.int .i64 r.2.2)]) none) [] := by
 refine sw_ tt_ok Tryz.func41 rfl rfl rfl ?_
 unfold F_de0 at h
 refine AWp.seq ?_
 refine AWp.rg tt_ok [] (by kernel_rfl) all_nil ?_
 refine AE.tn_ ?_
 refine AWp.seq ?_
 obtain ⟨r1, hr1, h⟩ := bind_some h
 have pr1 := c_af0 n l at_ ([([112, 114, 111, 99] : List UInt8)] : List (List UInt8)) _ hr1
 refine AWp.rg tt_ok [.val (encL 1 e_str ([([112, 114, 111, 99] : List UInt8)] : List (List UInt8))), orn pr1 []] (by kernel_rfl) (all_cons pr1 (all_cons (vimp_litm (k := 1) (e := e_str) ([([112, 114, 111, 99] : List UInt8)] : List (List UInt8))) all_nil)) ?_
 refine AE.tn_ ?_
 refine AWp.seq ?_
 refine AWp.seq ?_
 refine AWp.rg tt_ok [] (by kernel_rfl) all_nil ?_
 refine AE.tn_ ?_
 refine AWp.cnd h (by kernel_rfl) ?_ ?_ <;> clear h <;> intro h
 ·refine AWp.seq ?_
  refine AWp.rg tt_ok [.own] (by kernel_rfl) all_nil ?_
  refine AE.tn_ ?_
  refine AWp.ret ?_
  obtain rfl := Option.some.inj h
  exact AE.tr_ (post_ret (by kernel_rfl))
 ·refine AWp.skip ?_
  refine AE.tn_ ?_
  refine AWp.seq ?_
  obtain ⟨r3, hr3, h⟩ := bind_some h
  have pr3 := c_by0 n l r1.1 1 _ hr3
  refine AWp.rg tt_ok [orn pr3 []] (by kernel_rfl) (all_cons pr3 all_nil) ?_
  refine AE.tn_ ?_
  refine AWp.seq ?_
  refine AWp.seq ?_
  refine AWp.rg tt_ok [] (by kernel_rfl) all_nil ?_
  refine AE.tn_ ?_
  refine AWp.cnd h (by kernel_rfl) ?_ ?_ <;> clear h <;> intro h
  ·refine AWp.seq ?_
   refine AWp.rg tt_ok [.own] (by kernel_rfl) all_nil ?_
   refine AE.tn_ ?_
   refine AWp.ret ?_
   obtain rfl := Option.some.inj h
   exact AE.tr_ (post_ret (by kernel_rfl))
  ·refine AWp.skip ?_
   refine AE.tn_ ?_
   refine AWp.seq ?_
   obtain ⟨r5, hr5, h⟩ := bind_some h
   have pr5 := c_af0 n l r3.2.1 ([([40] : List UInt8)] : List (List UInt8)) _ hr5
   refine AWp.rg tt_ok [.val (encL 1 e_str ([([40] : List UInt8)] : List (List UInt8))), orn pr5 []] (by kernel_rfl) (all_cons pr5 (all_cons (vimp_litm (k := 1) (e := e_str) ([([40] : List UInt8)] : List (List UInt8))) all_nil)) ?_
   refine AE.tn_ ?_
   refine AWp.seq ?_
   refine AWp.seq ?_
   refine AWp.rg tt_ok [] (by kernel_rfl) all_nil ?_
   refine AE.tn_ ?_
   refine AWp.cnd h (by kernel_rfl) ?_ ?_ <;> clear h <;> intro h
   ·refine AWp.seq ?_
    refine AWp.rg tt_ok [.own] (by kernel_rfl) all_nil ?_
    refine AE.tn_ ?_
    refine AWp.ret ?_
    obtain rfl := Option.some.inj h
    exact AE.tr_ (post_ret (by kernel_rfl))
   ·refine AWp.skip ?_
    refine AE.tn_ ?_
    refine AWp.seq ?_
    refine AWp.rg tt_ok [.own] (by kernel_rfl) all_nil ?_
    refine AE.tn_ ?_
    refine AWp.seq ?_
    obtain ⟨r7, hr7, h⟩ := bind_some h
    have pr7 := c_ar0 n l r5.1 _ hr7
    refine AWp.rg tt_ok [orn pr7 []] (by kernel_rfl) (all_cons pr7 all_nil) ?_
    refine AE.tn_ ?_
    refine AWp.seq ?_
    refine AWp.seq ?_
    refine AWp.rg tt_ok [] (by kernel_rfl) all_nil ?_
    refine AE.tn_ ?_
    refine AWp.cnd h (by kernel_rfl) ?_ ?_ <;> clear h <;> intro h
    ·refine AWp.seq ?_
     refine AWp.rg tt_ok [.own] (by kernel_rfl) all_nil ?_
     refine AE.tn_ ?_
     refine AWp.ret ?_
     obtain rfl := Option.some.inj h
     exact AE.tr_ (post_ret (by kernel_rfl))
    ·refine AWp.skip ?_
     refine AE.tn_ ?_
     refine AWp.seq ?_
     obtain ⟨r9, hr9, h⟩ := bind_some h
     have pr9 := c_f0 n l r7.2.1 0 _ hr9
     refine AWp.rg tt_ok [orn pr9 []] (by kernel_rfl) (all_cons pr9 all_nil) ?_
     refine AE.tn_ ?_
     refine AWp.seq ?_
     refine AWp.rg tt_ok [] (by kernel_rfl) all_nil ?_
     refine AE.tn_ ?_
     refine AWp.ret ?_
     obtain rfl := Option.some.inj h
     exact post_ret (by kernel_rfl)
theorem c_o0 (n : Nat) (src : List UInt8) (r : (List Proc) × Int × Int) (h : F_o0 n src = some r) : saysOf Tryz.prog 19 [.v (.str src)] [] [] (.ret (.tup [.v (encL 3 enc_Proc r.1), .v (.int .i64 r.2.1), .v (.int .i64 r.2.2)]) none) [] := by
 refine sw_ tt_ok Tryz.func19 rfl rfl rfl ?_
 unfold F_o0 at h
 refine AWp.seq ?_
 refine AWp.rg tt_ok [] (by kernel_rfl) all_nil ?_
 refine AE.tn_ ?_
 refine AWp.seq ?_
 obtain ⟨r1, hr1, h⟩ := bind_some h
 have pr1 := c_ao0 n src _ hr1
 refine AWp.rg tt_ok [orn pr1 []] (by kernel_rfl) (all_cons pr1 all_nil) ?_
 refine AE.tn_ ?_
 refine AWp.seq ?_
 refine AWp.seq ?_
 refine AWp.rg tt_ok [] (by kernel_rfl) all_nil ?_
 refine AE.tn_ ?_
 refine AWp.cnd h (by kernel_rfl) ?_ ?_ <;> clear h <;> intro h
 ·refine AWp.seq ?_
  refine AWp.rg tt_ok [] (by kernel_rfl) all_nil ?_
  refine AE.tn_ ?_
  refine AWp.ret ?_
  obtain rfl := Option.some.inj h
  exact AE.tr_ (post_ret (by kernel_rfl))
 ·refine AWp.skip ?_
  refine AE.tn_ ?_
  refine AWp.seq ?_
  refine AWp.rg tt_ok [] (by kernel_rfl) all_nil ?_
  refine AE.tn_ ?_
  refine AWp.seq ?_
  refine AWp.rg tt_ok [] (by kernel_rfl) all_nil ?_
  refine AE.tn_ ?_
  refine AWp.cut (fun st' => ∃ (v15 : List Proc), restr [8] [] 0 st'.env st'.H st'.nxt = some ⟨[(8, ⟨.v (encL 3 enc_Proc v15), (some 34)⟩)], [], 0⟩ ∧ F_o0_j1 n v15 = some r) ?_ ?_
  ·refine AWp.block ?_
   refine AWp.loop (σ := (List Proc) × Int) (fun zm zs zst => restr [5, 8, 9] [] 0 zst.env zst.H zst.nxt = some ⟨[(5, ⟨.v (encL 4 enc_Token r1.1), none⟩), (8, ⟨.v (encL 3 enc_Proc zs.1), (some 34)⟩), (9, ⟨.v (.int .i64 zs.2), none⟩)], [], 0⟩ ∧ F_o0_l6 n r1 zm zs.1 zs.2 = some r) ?_ (n := n) (s := (([] : List Proc), 0)) ⟨by kernel_rfl, h⟩
   clear h
   rintro m6 ⟨v8, v9⟩ st' ⟨hr', h⟩
   cases m6 with
   | zero =>
    have h2 : (none : Option _) = some r := h
    cases h2
   | succ m6 =>
    refine ⟨m6, rfl, AWp.drop _ _ _ hr' (by kernel_rfl) ?_⟩
    clear hr' st'
    replace h : F_o0_b6 n r1 (F_o0_l6 n r1 m6) v8 v9 = some r := h
    unfold F_o0_b6 at h
    refine AWp.seq ?_
    refine AWp.seq ?_
    refine AWp.rg tt_ok [] (by kernel_rfl) all_nil ?_
    refine AE.tn_ ?_
    refine AWp.cnd h (by kernel_rfl) ?_ ?_ <;> clear h <;> intro h
    ·refine AWp.skip ?_
     refine AE.tn_ ?_
     refine AWp.block ?_
     refine AWp.seq ?_
     obtain ⟨r10, hr10, h⟩ := bind_some h
     have pr10 := c_de0 n r1.1 v9 _ hr10
     refine AWp.rg tt_ok [orn pr10 []] (by kernel_rfl) (all_cons pr10 all_nil) ?_
     refine AE.tn_ ?_
     refine AWp.seq ?_
     refine AWp.seq ?_
     refine AWp.rg tt_ok [] (by kernel_rfl) all_nil ?_
     refine AE.tn_ ?_
     refine AWp.cnd h (by kernel_rfl) ?_ ?_ <;> clear h <;> intro h
     ·refine AWp.seq ?_
      obtain ⟨r11, hr11, h⟩ := bind_some h
      have pr11 := c_cz0 n r1.1 r10.2.1 _ hr11
      refine AWp.rg tt_ok [orn pr11 []] (by kernel_rfl) (all_cons pr11 all_nil) ?_
      refine AE.tn_ ?_
      refine AWp.ret ?_
      obtain rfl := Option.some.inj h
      exact AE.tr_ (AE.br_ (AE.tr_ (AE.br_ (AE.tr_ (post_ret (by kernel_rfl))))))
     ·refine AWp.skip ?_
      refine AE.tn_ ?_
      refine AWp.seq ?_
      obtain ⟨g12, h⟩ := ass_some h
      refine AWp.rg tt_ok [.val (encL 3 enc_Proc ([r10.1] : List Proc)), .val (encL 3 enc_Proc (v8 ++ ([r10.1] : List Proc)))] (by kernel_rfl) (all_cons (vimp_app (k := 3) (e := enc_Proc) v8 ([r10.1] : List Proc)) (all_cons g12 (all_cons (vimp_litm (k := 3) (e := enc_Proc) ([r10.1] : List Proc)) all_nil))) ?_
      refine AE.tn_ ?_
      refine AWp.rg tt_ok [] (by kernel_rfl) all_nil ?_
      exact AE.bn_ (AE.tn_ ⟨((v8 ++ ([r10.1] : List Proc)), r10.2.1), by kernel_rfl, h⟩)
    ·refine AWp.exit ?_
     exact AE.tx_ (AE.tx_ (AE.block_hit (AE.tn_ ⟨v8, by kernel_rfl, h⟩)))
  ·clear h
   rintro st' ⟨v15, hr', h⟩
   refine AWp.drop _ _ _ hr' (by kernel_rfl) ?_
   clear hr' st'
   unfold F_o0_j1 at h
   refine AWp.seq ?_
   refine AWp.seq ?_
   refine AWp.rg tt_ok [] (by kernel_rfl) all_nil ?_
   refine AE.tn_ ?_
   refine AWp.cnd h (by kernel_rfl) ?_ ?_ <;> clear h <;> intro h
   ·refine AWp.seq ?_
    refine AWp.rg tt_ok [] (by kernel_rfl) all_nil ?_
    refine AE.tn_ ?_
    refine AWp.ret ?_
    obtain rfl := Option.some.inj h
    exact AE.tr_ (post_ret (by kernel_rfl))
   ·refine AWp.skip ?_
    refine AE.tn_ ?_
    refine AWp.cut (fun st' => restr [8] [] 0 st'.env st'.H st'.nxt = some ⟨[(8, ⟨.v (encL 3 enc_Proc v15), (some 34)⟩)], [], 0⟩ ∧ F_o0_j2 n v15 = some r) ?_ ?_
    ·refine AWp.seq ?_
     refine AWp.rg tt_ok [] (by kernel_rfl) all_nil ?_
     refine AE.tn_ ?_
     refine AWp.block ?_
     refine AWp.loop (σ := Int) (fun zm zs zst => restr [8, 13] [] 0 zst.env zst.H zst.nxt = some ⟨[(8, ⟨.v (encL 3 enc_Proc v15), (some 34)⟩), (13, ⟨.v (.int .i64 zs), none⟩)], [], 0⟩ ∧ F_o0_l3 n v15 zm zs = some r) ?_ (n := n) (s := 0) ⟨by kernel_rfl, h⟩
     clear h
     rintro m3 v27 st' ⟨hr', h⟩
     cases m3 with
     | zero =>
      have h2 : (none : Option _) = some r := h
      cases h2
     | succ m3 =>
      refine ⟨m3, rfl, AWp.drop _ _ _ hr' (by kernel_rfl) ?_⟩
      clear hr' st'
      replace h : F_o0_b3 n v15 (F_o0_l3 n v15 m3) v27 = some r := h
      unfold F_o0_b3 at h
      refine AWp.seq ?_
      refine AWp.seq ?_
      refine AWp.rg tt_ok [] (by kernel_rfl) all_nil ?_
      refine AE.tn_ ?_
      refine AWp.cnd h (by kernel_rfl) ?_ ?_ <;> clear h <;> intro h
      ·refine AWp.skip ?_
       refine AE.tn_ ?_
       refine AWp.cut (fun st' => restr [8, 13] [] 0 st'.env st'.H st'.nxt = some ⟨[(8, ⟨.v (encL 3 enc_Proc v15), (some 34)⟩), (13, ⟨.v (.int .i64 v27), none⟩)], [], 0⟩ ∧ F_o0_j4 n (F_o0_l3 n v15 m3) v15 v27 = some r) ?_ ?_
       ·refine AWp.block ?_
        refine AWp.seq ?_
        obtain ⟨g28, h⟩ := ass_some h
        obtain ⟨r29, hr29, h⟩ := bind_some h
        have pr29 := c_ak0 n (v15.getD (v27).toNat default) _ hr29
        refine AWp.rg tt_ok [.raw, orn pr29 []] (by kernel_rfl) (all_cons pr29 (all_cons g28 all_nil)) ?_
        refine AE.tn_ ?_
        refine AWp.seq ?_
        refine AWp.seq ?_
        refine AWp.rg tt_ok [] (by kernel_rfl) all_nil ?_
        refine AE.tn_ ?_
        refine AWp.cnd h (by kernel_rfl) ?_ ?_ <;> clear h <;> intro h
        ·refine AWp.seq ?_
         refine AWp.rg tt_ok [] (by kernel_rfl) all_nil ?_
         refine AE.tn_ ?_
         refine AWp.ret ?_
         obtain rfl := Option.some.inj h
         exact AE.tr_ (AE.br_ (AE.tr_ (AE.tr_ (AE.br_ (AE.tr_ (post_ret (by kernel_rfl)))))))
        ·refine AWp.skip ?_
         refine AE.tn_ ?_
         refine AWp.seq ?_
         refine AWp.rg tt_ok [] (by kernel_rfl) all_nil ?_
         refine AE.tn_ ?_
         refine AWp.block ?_
         refine AWp.loop (σ := Int) (fun zm zs zst => restr [8, 13, 15] [] 0 zst.env zst.H zst.nxt = some ⟨[(8, ⟨.v (encL 3 enc_Proc v15), (some 34)⟩), (13, ⟨.v (.int .i64 v27), none⟩), (15, ⟨.v (.int .i64 zs), none⟩)], [], 0⟩ ∧ F_o0_l5 n (F_o0_l3 n v15 m3) v15 v27 zm zs = some r) ?_ (n := n) (s := 0) ⟨by kernel_rfl, h⟩
         clear h
         rintro m5 v33 st' ⟨hr', h⟩
         cases m5 with
         | zero =>
          have h2 : (none : Option _) = some r := h
          cases h2
         | succ m5 =>
          refine ⟨m5, rfl, AWp.drop _ _ _ hr' (by kernel_rfl) ?_⟩
          clear hr' st'
          replace h : F_o0_b5 n (F_o0_l3 n v15 m3) v15 v27 (F_o0_l5 n (F_o0_l3 n v15 m3) v15 v27 m5) v33 = some r := h
          unfold F_o0_b5 at h
          refine AWp.seq ?_
          refine AWp.seq ?_
          refine AWp.rg tt_ok [] (by kernel_rfl) all_nil ?_
          refine AE.tn_ ?_
          refine AWp.cnd h (by kernel_rfl) ?_ ?_ <;> clear h <;> intro h
          ·refine AWp.skip ?_
           refine AE.tn_ ?_
           refine AWp.seq ?_
           refine AWp.block ?_
           refine AWp.seq ?_
           obtain ⟨g34, h⟩ := ass_some h
           obtain ⟨g35, h⟩ := ass_some h
           refine AWp.rgD tt_ok mo_ok [(2, [.raw]), (7, [.raw])] (by kernel_rfl) (all_cons g35 (all_cons g34 all_nil)) ?_
           refine AE.tn_ ?_
           refine AWp.cnd h (by kernel_rfl) ?_ ?_ <;> clear h <;> intro h
           ·refine AWp.seq ?_
            refine AWp.rg tt_ok [] (by kernel_rfl) all_nil ?_
            refine AE.tn_ ?_
            refine AWp.ret ?_
            obtain rfl := Option.some.inj h
            exact AE.br_ (AE.tr_ (AE.tr_ (AE.br_ (AE.br_ (AE.tr_ (AE.tr_ (AE.br_ (AE.tr_ (post_ret (by kernel_rfl))))))))))
           ·refine AWp.skip ?_
            refine AE.bn_ (AE.tn_ ?_)
            refine AWp.rg tt_ok [] (by kernel_rfl) all_nil ?_
            exact AE.tn_ ⟨(IntKind.i64.wrap (v33 + 1)), by kernel_rfl, h⟩
          ·refine AWp.exit ?_
           exact AE.tx_ (AE.tx_ (AE.block_hit (AE.bn_ (AE.tn_ ⟨by kernel_rfl, h⟩))))
       ·clear h
        rintro st' ⟨hr', h⟩
        refine AWp.drop _ _ _ hr' (by kernel_rfl) ?_
        clear hr' st'
        unfold F_o0_j4 at h
        refine AWp.rg tt_ok [] (by kernel_rfl) all_nil ?_
        exact AE.tn_ ⟨(IntKind.i64.wrap (v27 + 1)), by kernel_rfl, h⟩
      ·refine AWp.exit ?_
       exact AE.tx_ (AE.tx_ (AE.block_hit (AE.tn_ ⟨by kernel_rfl, h⟩)))
    ·clear h
     rintro st' ⟨hr', h⟩
     refine AWp.drop _ _ _ hr' (by kernel_rfl) ?_
     clear hr' st'
     unfold F_o0_j2 at h
     refine AWp.seq ?_
     refine AWp.rg tt_ok [] (by kernel_rfl) all_nil ?_
     refine AE.tn_ ?_
     refine AWp.ret ?_
     obtain rfl := Option.some.inj h
     exact post_ret (by kernel_rfl)
theorem c_bn0 (n : Nat) (a : List Proc) (b : List Proc) (r : Bool) (h : F_bn0 n a b = some r) : saysOf Tryz.prog 20 [.v (encL 3 enc_Proc a), .v (encL 3 enc_Proc b)] [] [] (.ret (.v (.bool r)) none) [] := by
 refine sw_ tt_ok Tryz.func20 rfl rfl rfl ?_
 unfold F_bn0 at h
 refine AWp.seq ?_
 refine AWp.rg tt_ok [] (by kernel_rfl) all_nil ?_
 refine AE.tn_ ?_
 refine AWp.seq ?_
 refine AWp.seq ?_
 refine AWp.rg tt_ok [] (by kernel_rfl) all_nil ?_
 refine AE.tn_ ?_
 refine AWp.cnd h (by kernel_rfl) ?_ ?_ <;> clear h <;> intro h
 ·refine AWp.seq ?_
  refine AWp.rg tt_ok [] (by kernel_rfl) all_nil ?_
  refine AE.tn_ ?_
  refine AWp.ret ?_
  obtain rfl := Option.some.inj h
  exact AE.tr_ (post_ret (by kernel_rfl))
 ·refine AWp.skip ?_
  refine AE.tn_ ?_
  refine AWp.cut (fun st' => restr [] [] 0 st'.env st'.H st'.nxt = some ⟨[], [], 0⟩ ∧ F_bn0_j1 n = some r) ?_ ?_
  ·refine AWp.seq ?_
   refine AWp.rg tt_ok [] (by kernel_rfl) all_nil ?_
   refine AE.tn_ ?_
   refine AWp.block ?_
   refine AWp.loop (σ := Int) (fun zm zs zst => restr [0, 1, 5] [] 0 zst.env zst.H zst.nxt = some ⟨[(0, ⟨.v (encL 3 enc_Proc a), none⟩), (1, ⟨.v (encL 3 enc_Proc b), none⟩), (5, ⟨.v (.int .i64 zs), none⟩)], [], 0⟩ ∧ F_bn0_l2 n a b zm zs = some r) ?_ (n := n) (s := 0) ⟨by kernel_rfl, h⟩
   clear h
   rintro m2 v6 st' ⟨hr', h⟩
   cases m2 with
   | zero =>
    have h2 : (none : Option _) = some r := h
    cases h2
   | succ m2 =>
    refine ⟨m2, rfl, AWp.drop _ _ _ hr' (by kernel_rfl) ?_⟩
    clear hr' st'
    replace h : F_bn0_b2 n a b (F_bn0_l2 n a b m2) v6 = some r := h
    unfold F_bn0_b2 at h
    refine AWp.seq ?_
    refine AWp.seq ?_
    refine AWp.rg tt_ok [] (by kernel_rfl) all_nil ?_
    refine AE.tn_ ?_
    refine AWp.cnd h (by kernel_rfl) ?_ ?_ <;> clear h <;> intro h
    ·refine AWp.skip ?_
     refine AE.tn_ ?_
     refine AWp.seq ?_
     refine AWp.block ?_
     refine AWp.seq ?_
     obtain ⟨g7, h⟩ := ass_some h
     obtain ⟨g8, h⟩ := ass_some h
     obtain ⟨r9, hr9, h⟩ := bind_some h
     have pr9 := c_bd0 n (a.getD (v6).toNat default) (b.getD (v6).toNat default) _ hr9
     refine AWp.rgD tt_ok mo_ok [(2, [.raw]), (6, [.raw]), (8, [orn pr9 []])] (by kernel_rfl) (all_cons pr9 (all_cons g8 (all_cons g7 all_nil))) ?_
     refine AE.tn_ ?_
     refine AWp.cnd h (by kernel_rfl) ?_ ?_ <;> clear h <;> intro h
     ·refine AWp.seq ?_
      refine AWp.rg tt_ok [] (by kernel_rfl) all_nil ?_
      refine AE.tn_ ?_
      refine AWp.ret ?_
      obtain rfl := Option.some.inj h
      exact AE.br_ (AE.tr_ (AE.tr_ (AE.br_ (AE.tr_ (post_ret (by kernel_rfl))))))
     ·refine AWp.skip ?_
      refine AE.bn_ (AE.tn_ ?_)
      refine AWp.rg tt_ok [] (by kernel_rfl) all_nil ?_
      exact AE.tn_ ⟨(IntKind.i64.wrap (v6 + 1)), by kernel_rfl, h⟩
    ·refine AWp.exit ?_
     exact AE.tx_ (AE.tx_ (AE.block_hit (AE.tn_ ⟨by kernel_rfl, h⟩)))
  ·clear h
   rintro st' ⟨hr', h⟩
   refine AWp.drop _ _ _ hr' (by kernel_rfl) ?_
   clear hr' st'
   unfold F_bn0_j1 at h
   refine AWp.seq ?_
   refine AWp.rg tt_ok [] (by kernel_rfl) all_nil ?_
   refine AE.tn_ ?_
   refine AWp.ret ?_
   obtain rfl := Option.some.inj h
   exact post_ret (by kernel_rfl)
theorem c_cp0 (n : Nat) (src : List UInt8) (r : Bool) (h : F_cp0 n src = some r) : saysOf Tryz.prog 5 [.v (.str src)] [] [] (.ret (.v (.bool r)) none) [] := by
 refine sw_ tt_ok Tryz.func5 rfl rfl rfl ?_
 unfold F_cp0 at h
 refine AWp.seq ?_
 refine AWp.rg tt_ok [] (by kernel_rfl) all_nil ?_
 refine AE.tn_ ?_
 refine AWp.seq ?_
 refine AWp.seq ?_
 refine AWp.rg tt_ok [] (by kernel_rfl) all_nil ?_
 refine AE.tn_ ?_
 refine AWp.cnd h (by kernel_rfl) ?_ ?_ <;> clear h <;> intro h
 ·refine AWp.seq ?_
  obtain ⟨r2, hr2, h⟩ := bind_some h
  have pr2 := c_co0 n _ hr2
  refine AWp.rg tt_ok [orn pr2 []] (by kernel_rfl) (all_cons pr2 all_nil) ?_
  refine AE.tn_ ?_
  refine AWp.ret ?_
  obtain rfl := Option.some.inj h
  exact AE.tr_ (post_ret (by kernel_rfl))
 ·refine AWp.skip ?_
  refine AE.tn_ ?_
  refine AWp.seq ?_
  obtain ⟨r3, hr3, h⟩ := bind_some h
  have pr3 := c_bk0 n src _ hr3
  refine AWp.rg tt_ok [orn pr3 []] (by kernel_rfl) (all_cons pr3 all_nil) ?_
  refine AE.tn_ ?_
  refine AWp.seq ?_
  obtain ⟨r4, hr4, h⟩ := bind_some h
  have pr4 := c_o0 n src _ hr4
  refine AWp.rg tt_ok [orn pr4 []] (by kernel_rfl) (all_cons pr4 all_nil) ?_
  refine AE.tn_ ?_
  refine AWp.seq ?_
  obtain ⟨r5, hr5, h⟩ := bind_some h
  have pr5 := c_bn0 n r3.1 r4.1 _ hr5
  obtain ⟨r6, hr6, h⟩ := bind_some h
  have pr6 := fun c1 => c_co0 n _ (cond_t c1 hr6)
  refine AWp.rg tt_ok [orn pr5 [], orn1 pr6] (by kernel_rfl) (all_cons pr6 (all_cons pr5 all_nil)) ?_
  refine AE.tn_ ?_
  refine AWp.ret ?_
  obtain rfl := Option.some.inj h
  exact post_ret (by kernel_rfl)
end Go.Ab.Y
