/- Each function does what its plain function says. Printed by a program. -/
import Derived.Test.YtenhknjlgfakfaaGreatDoorFns
/- Printed by gen.py. -/
namespace Go.Ab.Y
open Go Go.Ab Go.Proofs
set_option linter.unusedVariables false
open T
set_option maxRecDepth 20000
set_option linter.unusedVariables false
theorem c_er0 {n : Nat} {op : Int} : Con 141 [vI op] [] [] (F_er0 n op) (fun r => oR (vI r)) (fun _ => []) :=
 Fw Tryz.func141 rfl fun h => G (Sq (Bk (G (C h (fun h => G (Rt (br_ (tr_ (Pr h))))) fun h => G (C h (fun h => G (Rt (br_ (tr_ (Pr h))))) fun h => G (C h (fun h => G (Rt
 (br_ (tr_ (Pr h))))) fun h => Sk (bn_ (tn_ (G (Rt (Pr h)))))))))))
theorem c_ci0 {n : Nat} {s : List UInt8} : Con 142 [vS s] [] [] (F_ci0 n s) (fun r => oR (vB r)) (fun _ => []) :=
 Fw Tryz.func142 rfl fun h => G (K0 ⟨[(0, eS s)], [], 0⟩ (F_ci0_j1 n s) (G (Bk (L1 (fun v4 => ⟨[(0, eS s), (3, eI v4)], [], 0⟩) (F_ci0_l2 n s)
 (F_ci0_b2 n s) h fun k2 v4 h => Sq (G (C h (fun h => Sk (tn_ (Sq (Bk (As h fun g5 h => As h fun g6 h => Ho [] (A_ (orF g6) (A_ g5 Z_)) (C h (fun h => G (Rt (br_
 (tr_ (tr_ (br_ (tr_ (Pr h)))))))) fun h => Sk (bn_ (tn_ (Rk (E1 h)))))))))) fun h => Ex (tx_ (tx_ (bh_ (E0 h))))))))) fun h => G (Rt (Pr h)))
theorem c_ac0 {n : Nat} {s : List UInt8} : Con 105 [vS s] [] [] (F_ac0 n s) (fun r => oR (vB r)) (fun _ => []) :=
 Fw Tryz.func105 rfl fun h => G (K0 ⟨[], [], 0⟩ (F_ac0_j1 n) (G (Bk (K1 (fun v1 => ⟨[(4, eB v1)], [], 0⟩) (F_ac0_j2 n) (G (C h (fun h => Sk (E1 h))
 fun h => G (C h (fun h => Sk (E1 h)) fun h => G (C h (fun h => Sk (E1 h)) fun h => G (C h (fun h => Sk (E1 h)) fun h => G (C h (fun h => Sk (E1 h)) fun h => G (C h (fun h
 => Sk (E1 h)) fun h => G (C h (fun h => Sk (E1 h)) fun h => G (C h (fun h => Sk (E1 h)) fun h => G (C h (fun h => Sk (E1 h)) fun h => G (C h (fun h => Sk (E1 h)) fun h =>
 G (C h (fun h => Sk (E1 h)) fun h => G (C h (fun h => Sk (E1 h)) fun h => G (C h (fun h => Sk (E1 h)) fun h => G (C h (fun h => Sk (E1 h)) fun h => G (C h (fun h => Sk
 (E1 h)) fun h => G (C h (fun h => Sk (E1 h)) fun h => G (C h (fun h => Sk (E1 h)) fun h => G (C h (fun h => Sk (E1 h)) fun h => G (C h (fun h => Sk (E1 h)) fun h => G (C
 h (fun h => Sk (E1 h)) fun h => G (C h (fun h => Sk (E1 h)) fun h => G (C h (fun h => Sk (E1 h)) fun h => G (C h (fun h => Sk (E1 h)) fun h => G (C h (fun h => Sk (E1 h))
 fun h => Rk (E1 h)))))))))))))))))))))))))) fun v1 h => C h (fun h => G (Rt (br_ (tr_ (Pr h))))) fun h => Sk (bn_ (E0 h))))) fun h => G (Rt (Pr h)))
theorem c_dj0 {n : Nat} {c : Int} : Con 103 [.v (.int .i32 c)] [] [] (F_dj0 n c) (fun r => oR (vB r)) (fun _ => []) :=
 Fw Tryz.func103 rfl fun h => G (G (Rt (Pr h)))
theorem c_cb0 {n : Nat} {s : List UInt8} : Con 50 [vS s] [] [] (F_cb0 n s) (fun r => oR (vB r)) (fun _ => []) :=
 Fw Tryz.func50 rfl fun h => G (As h fun g1 h => Bd h fun r2 q2 h => Hv (fun c1 => c_dj0.of (cond_t c1 q2)) fun p2 => Bd h fun r3 q3 h => Hv
 (fun c1 => c_ea0 (cond_t c1 q3)) fun p3 => Bd h fun r4 q4 h => Hv (fun c1 => c_ac0.of (cond_t c1 q4)) fun p4 => Ho [orn1 p2, orn1 p3, orn1 p4]
 (A_ p4 (A_ p3 (A_ p2 (A_ (orT g1) Z_)))) (Rt (Pr h)))
theorem c_eu0 {n : Nat} {e : Expr} {depth : Int} : Con 98 [.v (.agg [.int .i64 e.Op, .int .i64 e.N, .str e.S, encL 4 enc_Expr e.Args]), vI depth] [] [] (F_eu0 n e depth) (fun r => oR (vI r)) (fun _ => []) :=
 Fw Tryz.func98 rfl fun h => G (Bd h fun r1 q1 h => Gn (c_er0.of q1) (Sq (Bk (G (C h (fun h => G (Rt (br_ (tr_ (Pr h))))) fun h => Bd h fun r3 q3 h => Hv
 (fun c1 => c_cb0.of (cond_t c1 q3)) fun p3 => Ho [orn1 p3] (A_ p3 Z_) (C h (fun h => G (Rt (br_ (tr_ (Pr h))))) fun h => Bd h fun r5 q5 h => Hv
 (fun c1 c2 => c_ci0.of (cond_t (and_t (not_t c1) c2) q5)) fun p5 => Ho [orn2 p5] (A_ p5 Z_) (C h (fun h => G (Rt (br_ (tr_ (Pr h))))) fun h => G (C h (fun h => G
 (Rt (br_ (tr_ (Pr h))))) fun h => Sk (bn_ (tn_ (G (Rt (Pr h)))))))))))))
abbrev I_ap0 (f : Expr → Int → Option Int) : Prop := ∀ (e : Expr) (depth : Int), Con 47 [.v (.agg [.int .i64 e.Op, .int .i64 e.N, .str e.S, encL 4 enc_Expr e.Args]), vI depth] [] [] (f e depth) (fun r => oR (vI r)) (fun _ => [])
theorem cB_ap0 {n : Nat} {f_ap0 : Expr → Int → Option Int} (i_ap0 : I_ap0 f_ap0) : I_ap0 (B_ap0 n f_ap0) := fun e depth =>
 Fw Tryz.func47 rfl fun h => G (Bd h fun r1 q1 h => Sq (Gn (c_eu0.of q1) (G (C h (fun h => G (Rt (tr_ (Pr h)))) fun h => Sk (tn_ (K0 ⟨[], [], 0⟩
 (F_ap0_j1 n f_ap0) (G (Bk (L1 (fun v6 => ⟨[(1, eI depth), (16, eL 4 enc_Expr e.Args), (17, eI ((e.Args.length : Nat) : Int)), (18, eI v6)], [], 0⟩)
 (F_ap0_l2 n f_ap0 depth e) (F_ap0_b2 n f_ap0 depth e) h fun k2 v6 h => G (Sq (C h (fun h => Sk (tn_ (Sq (Bk (As h fun g7 h => Ho
 [orv (enc_vimp_Expr (e.Args.getD (v6).toNat default))] (A_ (enc_vimp_Expr (e.Args.getD (v6).toNat default)) (A_ g7 Z_)) (Bd h fun r8 q8 h => Gn ((i_ap0 _ _).of q8)
 (G (C h (fun h => G (Rt (br_ (tr_ (tr_ (br_ (tr_ (Pr h)))))))) fun h => Sk (bn_ (tn_ (Rk (E1 h)))))))))))) fun h => Ex (tx_ (tx_ (bh_ (E0 h))))))))) fun h => G (Rt (Pr
 h))))))))
theorem c_ap0 {n : Nat} : I_ap0 (F_ap0 n) := by
 induction n with
 | zero => exact fun e depth => ⟨fun h => no_ h⟩
 | succ m ih => exact cB_ap0 (n := m) ih
theorem c_cx0 {n : Nat} {e : Expr} : Con 22 [.v (.agg [.int .i64 e.Op, .int .i64 e.N, .str e.S, encL 4 enc_Expr e.Args])] [] [] (F_cx0 n e) (fun r => oR (vI r)) (fun _ => []) :=
 Fw Tryz.func22 rfl fun h => G (Bd h fun r1 q1 h => Gn ((c_ap0 _ _).of q1) (Rt (Pr h)))
theorem c_as0 {n : Nat} {s : List UInt8} : Con 115 [vS s] [] [] (F_as0 n s) (fun r => oR (.tup [vS r.1, vI r.2.1, vI r.2.2])) (fun _ => []) :=
 Fw Tryz.func115 rfl fun h => G (G (K0 ⟨[], [], 0⟩ (F_as0_j1 n) (G (Bk (L2
 (fun v11 v12 => ⟨[(0, eS s), (5, ⟨.v (encL 1 e_u8 v11), (some 5)⟩), (6, eI v12)], [], 0⟩) (F_as0_l2 n s) (F_as0_b2 n s) h fun k2 v11 v12 h => Sq (G (C
 h (fun h => Sk (tn_ (K2 (fun v19 v20 => ⟨[(0, eS s), (5, ⟨.v (encL 1 e_u8 v19), (some 5)⟩), (6, eI v20)], [], 0⟩) (F_as0_j3 n k2 s) (Bk (As h fun g13 h => Ho []
 (A_ g13 Z_) (Sq (G (C h (fun h => As h fun g14 h => Ho [.val (.str (toB v11))] (A_ (toB_ok g14) Z_) (Rt (tr_ (br_ (tr_ (tr_ (br_ (tr_ (Pr h))))))))) fun h => Sk (tn_ (K2
 (fun v16 v17 => ⟨[(0, eS s), (5, ⟨.v (encL 1 e_u8 v11), (some 5)⟩), (6, eI v16), (7, eV (.int .u8 v17))], [], 0⟩) (F_as0_j4 n k2 s v11) (G (C h (fun h => G (Sq
 (G (C h (fun h => Ex (tx_ (tx_ (bm_ (tx_ (tx_ (bh_ (E0 h)))))))) fun h => Sk (tn_ (As h fun g15 h => Ho [] (A_ g15 Z_) (G (C h (fun h => G (Rt (tr_ (br_ (tr_ (tr_ (br_
 (tr_ (Pr h))))))))) fun h => Sk (E2 h))))))))) fun h => Sk (E2 h))) fun v16 v17 h => Sq (G (C h (fun h => G (Rt (tr_ (br_ (tr_ (tr_ (br_ (tr_ (Pr h))))))))) fun h => Sk
 (tn_ (Sq (G (C h (fun h => G (Rt (tr_ (br_ (tr_ (tr_ (br_ (tr_ (Pr h))))))))) fun h => Sk (tn_ (As h fun g18 h => Ro
 [.val (encL 1 e_u8 ([v17] : List Int)), .val (encL 1 e_u8 (v11 ++ ([v17] : List Int)))]
 (A_ (vimp_app (k := 1) (e := e_u8) v11 ([v17] : List Int)) (A_ g18 (A_ (vimp_litm (k := 1) (e := e_u8) ([v17] : List Int)) Z_))) (bn_ (E2 h))))))))))))))))) fun v19 v20 h
 => Rk (E2 h)))) fun h => Ex (tx_ (tx_ (bh_ (E0 h))))))))) fun h => G (Rt (Pr h))))
theorem c_dz0 {n : Nat} {s : List UInt8} {c : Int} : Con 157 [vS s, .v (.int .u8 c)] [] [] (F_dz0 n s c) (fun r => oR (vI r)) (fun _ => []) :=
 Fw Tryz.func157 rfl fun h => G (Bd h fun r1 q1 h => Gn (c_bx0 q1) (Rt (Pr h)))
theorem c_bs0 {n : Nat} {s : List UInt8} : Con 116 [vS s] [] [] (F_bs0 n s) (fun r => oR (vS r)) (fun _ => []) :=
 Fw Tryz.func116 rfl fun h => G (K0 ⟨[(0, eS s)], [], 0⟩ (F_bs0_j1 n s) (G (C h (fun h => As h fun g1 h => Ho [] (A_ g1 Z_) (Bk (K1
 (fun v2 => ⟨[(0, eS s), (8, eB v2)], [], 0⟩) (F_bs0_j2 n s) (G (C h (fun h => Sk (E1 h)) fun h => G (C h (fun h => Sk (E1 h)) fun h => G (C h (fun h => Sk (E1 h))
 fun h => G (C h (fun h => Sk (E1 h)) fun h => Rk (E1 h)))))) fun v2 h => C h (fun h => As h fun g3 h => Ho [] (A_ g3 Z_) (Rt (br_ (tr_ (Pr h))))) fun h => Sk (bn_ (E0
 h))))) fun h => Sk (E0 h))) fun h => As h fun g4 h => Bd h fun r5 q5 h => Hv (fun c1 => c_dz0.of (cond_t c1 q5)) fun p5 => Sq (Ho [orn1 p5]
 (A_ p5 (A_ (orT g4) Z_)) (C h (fun h => As h fun g7 h => Ho [] (A_ g7 Z_) (Rt (tr_ (Pr h)))) fun h => Sk (tn_ (G (Rt (Pr h)))))))
theorem c_bh0 {n : Nat} {s : List UInt8} : Con 156 [vS s] [] [] (F_bh0 n s) (fun r => oR (.tup [vI r.1, vI r.2])) (fun _ => []) :=
 Fw Tryz.func156 rfl fun h => G (Sc (G (K2 (fun v3 v4 => ⟨[(0, eS s), (4, eS v3), (5, eB v4)], [], 0⟩) (F_bh0_j1 n s) (As h fun g1 h => Ho [] (A_ (orT g1) Z_) (C h
 (fun h => As h fun g2 h => Ro [] (A_ g2 Z_) (E2 h)) fun h => Sk (E2 h))) fun v3 v4 h => G (Sq (Lb (tn_ (K1
 (fun v10 => ⟨[(0, eS s), (4, eS v3), (5, eB v4), (6, eI v10)], [], 0⟩) (F_bh0_j2 n s v3 v4) (Bk (L1
 (fun v7 => ⟨[(0, eS s), (4, eS v3), (5, eB v4), (6, eI v7)], [], 0⟩) (F_bh0_l3 n s v3 v4) (F_bh0_b3 n s v3 v4) h fun k3 v7 h => Sq (G (C h (fun h => Sk (tn_
 (Bk (As h fun g8 h => Ho [] (A_ g8 Z_) (Bk (G (C h (fun h => Rk (bn_ (bn_ (E1 h)))) fun h => Ex (bm_ (bm_ (tx_ (bh_ (E1 h)))))))))))) fun h => Ex (tx_ (tx_ (bh_ (E1
 h)))))))) fun v10 h => As h fun g11 h => Sq (Ho [] (A_ (orF g11) Z_) (C h (fun h => G (Rt (tr_ (Pr h)))) fun h => Sk (tn_ (Bd h fun r13 q13 h => Sq (Sv (fun x => x) q13 h
 (fun y14_0 q13 h => Rn (c_cq0 q13) (tn_ (Sq (G (C h (fun h => G (Rt (tr_ (Pr h)))) fun h => Sk (tn_ (G (Rt (Pr h))))))))) fun y14_1 q13 h => Rn
 (c_cq0 q13) (tn_ (Sq (G (C h (fun h => G (Rt (tr_ (Pr h)))) fun h => Sk (tn_ (G (Rt (Pr h))))))))))))))))))))
theorem c_ed0 {n : Nat} {w : List UInt8} : Con 114 [vS w] [] [] (F_ed0 n w) (fun r => oR (.tup [.v (.agg [.int .i64 r.1.Kind, .str r.1.Text, .int .i64 r.1.N, .int .i64 r.1.Line]), vI r.2])) (fun _ => []) :=
 Fw Tryz.func114 rfl fun h => G (As h fun g1 h => Sq (Ho [] (A_ g1 Z_) (C h (fun h => G (Rt (tr_ (Pr h)))) fun h => Sk (tn_ (As h fun g3 h => Bd h fun r4 q4 h => Sq (Ho
 [orn (c_dj0.of q4) []] (A_ (c_dj0.of q4) (A_ g3 Z_)) (C h (fun h => Bd h fun r6 q6 h => Sq (Gn (c_ac0.of q6) (C h (fun h => G (Rt (tr_ (tr_
 (Pr h))))) fun h => Sk (tn_ (Bd h fun r8 q8 h => Sq (Gn (c_cb0.of q8) (C h (fun h => G (Rt (tr_ (tr_ (Pr h))))) fun h => Sk (tn_ (G (Rt (tr_ (Pr h))))))))))))
 fun h => Sk (tn_ (Bd h fun r10 q10 h => Gn (c_bh0.of q10) (Sq (G (C h (fun h => G (Rt (tr_ (Pr h)))) fun h => Sk (tn_ (G (Rt (Pr h))))))))))))))))
theorem c_di0 {n : Nat} {s : List UInt8} : Con 64 [vS s] [] [] (F_di0 n s) (fun r => oR (.tup [.v (.agg [.int .i64 r.1.Kind, .str r.1.Text, .int .i64 r.1.N, .int .i64 r.1.Line]), vI r.2.1, vI r.2.2])) (fun _ => []) :=
 Fw Tryz.func64 rfl fun h => G (Bd h fun r1 q1 h => Sq (Gn (c_ea0 q1) (G (C h (fun h => As h fun g3 h => Bd h fun r4 q4 h => Ho [orn (c_ed0.of q4) []]
 (A_ (c_ed0.of q4) (A_ g3 Z_)) (G (Rt (tr_ (Pr h))))) fun h => Sk (tn_ (As h fun g5 h => Sq (Ho [] (A_ g5 Z_) (C h (fun h => Bd h fun r7 q7 h => Gn
 (c_as0.of q7) (G (Rt (tr_ (Pr h))))) fun h => Sk (tn_ (Bd h fun r8 q8 h => Gn (c_bs0.of q8) (Sq (G (C h (fun h => G (Rt (tr_ (Pr h)))) fun h => Sk (tn_
 (G (Rt (Pr h)))))))))))))))))
theorem c_eg0 {n : Nat} {s : List UInt8} : Con 65 [vS s] [] [] (F_eg0 n s) (fun r => oR (vS r)) (fun _ => []) :=
 Fw Tryz.func65 rfl fun h => G (Bd h fun r1 q1 h => Gn (c_cg0 q1) (Rt (Pr h)))
theorem c_p0 {n : Nat} {src : List UInt8} : Con 29 [vS src] [] [] (F_p0 n src) (fun r => oR (.tup [vL 4 enc_Token r.1, vI r.2.1, vI r.2.2])) (fun _ => []) :=
 Fw Tryz.func29 rfl fun h => G (Sq (G (C h (fun h => G (Rt (tr_ (Pr h)))) fun h => Sk (tn_ (G (G (K1 (fun v35 => ⟨[(5, ⟨.v (encL 4 enc_Token v35), (some 100)⟩)], [], 0⟩)
 (F_p0_j1 n) (G (Bk (L3 (fun v17 v18 v19 => ⟨[(0, eS src), (5, ⟨.v (encL 4 enc_Token v17), (some 100)⟩), (6, eI v18), (7, eI v19)], [], 0⟩)
 (F_p0_l2 n src) (F_p0_b2 n src) h fun k2 v17 v18 v19 h => Sq (G (C h (fun h => Sk (tn_ (Bk (K0
 ⟨[(0, eS src), (5, ⟨.v (encL 4 enc_Token v17), (some 100)⟩), (6, eI v18), (7, eI v19)], [], 0⟩ (F_p0_j3 n k2 src v17 v18 v19) (As h fun g20 h => Ho []
 (A_ g20 Z_) (Bk (G (C h (fun h => G (G (Ex (bm_ (tx_ (bh_ (E3 h))))))) fun h => K1
 (fun v21 => ⟨[(0, eS src), (5, ⟨.v (encL 4 enc_Token v17), (some 100)⟩), (6, eI v18), (7, eI v19), (20, eV (.int .u8 (((src.getD (v19).toNat 0).toNat : Nat) : Int))), (27, eB v21)], [], 0⟩)
 (F_p0_j4 n k2 src v17 v18 v19) (G (C h (fun h => Sk (E1 h)) fun h => Rk (E1 h))) fun v21 h => C h (fun h => G (Ex (bm_ (tx_ (bh_ (E3 h)))))) fun h => G (C h
 (fun h => K1 (fun v27 => ⟨[(0, eS src), (5, ⟨.v (encL 4 enc_Token v17), (some 100)⟩), (6, eI v18), (7, eI v27)], [], 0⟩) (F_p0_j5 n k2 src v17 v18) (Bk (L1
 (fun v24 => ⟨[(0, eS src), (5, ⟨.v (encL 4 enc_Token v17), (some 100)⟩), (6, eI v18), (7, eI v24)], [], 0⟩) (F_p0_l6 n k2 src v17 v18)
 (F_p0_b6 n k2 src v17 v18) h fun k6 v24 h => As h fun g25 h => Sq (Ho [] (A_ (orT g25) Z_) (C h (fun h => Sk (tn_ (Bk (Rk (bn_ (E1 h)))))) fun h => Ex (tx_
 (tx_ (bh_ (E1 h)))))))) fun v27 h => Ex (bm_ (tx_ (bh_ (E3 h))))) fun h => Sk (bn_ (E0 h))))))) fun h => As h fun g28 h => Bd h fun r29 q29 h => Ho
 [orn (c_di0.of q29) []] (A_ (c_di0.of q29) (A_ g28 Z_)) (Sq (G (C h (fun h => G (Rt (tr_ (br_ (tr_ (br_ (tr_ (Pr h)))))))) fun h => Sk (tn_ (G (Bd h fun
 r30 q30 h => Gn (c_eg0.of q30) (As h fun g31 h => Ho
 [.val (encL 4 enc_Token ([(⟨r29.1.Kind, r30, r29.1.N, v18⟩ : Token)] : List Token)), .val (encL 4 enc_Token (v17 ++ ([(⟨r29.1.Kind, r30, r29.1.N, v18⟩ : Token)] : List Token)))]
 (A_ (vimp_app (k := 4) (e := enc_Token) v17 ([(⟨r29.1.Kind, r30, r29.1.N, v18⟩ : Token)] : List Token)) (A_ g31 (A_ (vimp_litm (k := 4) (e := enc_Token) ([(⟨r29.1.Kind, r30, r29.1.N, v18⟩ : Token)] : List Token)) Z_)))
 (Rk (bn_ (E3 h)))))))))))))) fun h => Ex (tx_ (tx_ (bh_ (E1 h))))))))) fun v35 h => G (Rt (Pr h)))))))))
theorem c_bc0 {n : Nat} {text : List UInt8} {b0_ : PPz} : Con 74 [.ptr 0 0, vS text] [] [[eL 4 enc_Token b0_.tokens, eI b0_.at_]] (F_bc0 n text b0_) (fun r => oR (vB r)) (fun _ => [[eL 4 enc_Token b0_.tokens, eI b0_.at_]]) :=
 Fw Tryz.func74 rfl fun h => G (Sq (Hd [] Z_ (C h (fun h => G (Rt (tr_ (Pr h)))) fun h => Sk (tn_ (As h fun g2 h => Hd [(8, [.raw])] (A_ g2 Z_) (G (Rt (Pr h))))))))
theorem c_ce0 {n : Nat} {b0_ : PPz} : Con 77 [.ptr 0 0] [] [[eL 4 enc_Token b0_.tokens, eI b0_.at_]] (F_ce0 n b0_) (fun r => oR (.tup [vI r.1, vI r.2])) (fun _ => [[eL 4 enc_Token b0_.tokens, eI b0_.at_]]) :=
 Fw Tryz.func77 rfl fun h => G (Sq (Hd [] Z_ (C h (fun h => G (Rt (tr_ (Pr h)))) fun h => Sk (tn_ (As h fun g2 h => Hd [(8, [.raw])] (A_ g2 Z_) (Sq (G (C h (fun h => G (Rt
 (tr_ (Pr h)))) fun h => Sk (tn_ (Sq (G (Bk (G (C h (fun h => G (Rt (br_ (tr_ (Pr h))))) fun h => G (C h (fun h => G (Rt (br_ (tr_ (Pr h))))) fun h => G (C h (fun h => G
 (Rt (br_ (tr_ (Pr h))))) fun h => G (C h (fun h => G (Rt (br_ (tr_ (Pr h))))) fun h => G (C h (fun h => G (Rt (br_ (tr_ (Pr h))))) fun h => G (C h (fun h => G (Rt (br_
 (tr_ (Pr h))))) fun h => G (C h (fun h => G (Rt (br_ (tr_ (Pr h))))) fun h => G (C h (fun h => G (Rt (br_ (tr_ (Pr h))))) fun h => G (C h (fun h => G (Rt (br_ (tr_ (Pr
 h))))) fun h => G (C h (fun h => G (Rt (br_ (tr_ (Pr h))))) fun h => G (C h (fun h => G (Rt (br_ (tr_ (Pr h))))) fun h => G (C h (fun h => G (Rt (br_ (tr_ (Pr h))))) fun
 h => G (C h (fun h => G (Rt (br_ (tr_ (Pr h))))) fun h => G (C h (fun h => G (Rt (br_ (tr_ (Pr h))))) fun h => Sk (bn_ (tn_ (G (Rt (Pr h))))))))))))))))))))))))))))))))
theorem c_t0 {n : Nat} {code : Int} {b0_ : PPz} : Con 73 [.ptr 0 0, vI code] [] [[eL 4 enc_Token b0_.tokens, eI b0_.at_]] (F_t0 n code b0_) (fun r => Pn.on r (fun za zb => oR (.tup [])) (fun zx zb => .pan zx)) (fun r => Pn.on r (fun za zb => [[eL 4 enc_Token b0_.tokens, eI b0_.at_]]) (fun zx zb => [[eL 4 enc_Token b0_.tokens, eI b0_.at_]])) :=
 Fw Tryz.func73 rfl fun h => K0 ⟨[(0, eP 0 0)], [(0, [eL 4 enc_Token b0_.tokens, eI b0_.at_])], 1⟩ (F_t0_j1 n b0_) (Hd [] Z_ (C h (fun h => As h fun g1 h
 => RDP 14 (.iface 114 (.agg [.int .i64 ((b0_.tokens.getD (b0_.at_).toNat default).Line), .int .i64 code])) [(8, [.raw])] (A_ g1 Z_) fun _ => tp_ (Pp h)) fun h => Sk (E0
 h))) fun h => K0 ⟨[(0, eP 0 0)], [(0, [eL 4 enc_Token b0_.tokens, eI b0_.at_])], 1⟩ (F_t0_j2 n b0_) (G (C h (fun h => RP
 (.iface 114 (.agg [.int .i64 1, .int .i64 6])) [] Z_ (tp_ (Pp h))) fun h => Sk (E0 h))) fun h => As h fun g2 h => RDP 15
 (.iface 114 (.agg [.int .i64 ((b0_.tokens.getD ((IntKind.i64.wrap (((b0_.tokens.length : Nat) : Int) - 1))).toNat default).Line), .int .i64 6])) [(10, [.raw])] (A_ g2 Z_)
 fun _ => Pp h
theorem c_ae0 {n : Nat} {depth : Int} {b0_ : PPz} : Con 121 [.ptr 0 0, vI depth] [] [[eL 4 enc_Token b0_.tokens, eI b0_.at_]] (F_ae0 n depth b0_) (fun r => Pn.on r (fun za zb => oR (vI za)) (fun zx zb => .pan zx)) (fun r => Pn.on r (fun za zb => [[eL 4 enc_Token b0_.tokens, eI b0_.at_]]) (fun zx zb => [[eL 4 enc_Token b0_.tokens, eI b0_.at_]])) :=
 Fw Tryz.func121 rfl fun h => G (K0 ⟨[(1, eI depth)], [(0, [eL 4 enc_Token b0_.tokens, eI b0_.at_])], 1⟩ (F_ae0_j1 n depth b0_) (G (C h (fun h => Bp h (fun
 r2 r3 q1 h => Rn (c_t0.of q1) (E0 h)) fun x4 r3 q1 h => RP x4 [orn (c_t0.of q1) []] (A_ (c_t0.of q1) Z_) (tp_ (Pp h))) fun
 h => Sk (E0 h))) fun h => G (Rt (Pr h)))
theorem c_cj0 {n : Nat} {b0_ : PPz} : Con 122 [.ptr 0 0] [] [[eL 4 enc_Token b0_.tokens, eI b0_.at_]] (F_cj0 n b0_) (fun r => oR (vI r)) (fun _ => [[eL 4 enc_Token b0_.tokens, eI b0_.at_]]) :=
 Fw Tryz.func122 rfl fun h => G (As h fun g1 h => Sq (Hd [(19, [.raw])] (A_ (orF g1) Z_) (C h (fun h => G (Rt (tr_ (Pr h)))) fun h => Sk (tn_ (As h fun g3 h => Sq (Hd
 [(8, [.raw])] (A_ g3 Z_) (Bk (G (C h (fun h => G (Rt (br_ (tr_ (Pr h))))) fun h => G (C h (fun h => G (Rt (br_ (tr_ (Pr h))))) fun h => G (C h (fun h => G (Rt (br_ (tr_
 (Pr h))))) fun h => G (C h (fun h => G (Rt (br_ (tr_ (Pr h))))) fun h => G (C h (fun h => G (Rt (br_ (tr_ (Pr h))))) fun h => G (C h (fun h => G (Rt (br_ (tr_ (Pr h)))))
 fun h => G (C h (fun h => G (Rt (br_ (tr_ (Pr h))))) fun h => G (C h (fun h => G (Rt (br_ (tr_ (Pr h))))) fun h => Sk (bn_ (tn_ (G (Rt (Pr h)))))))))))))))))))))
theorem c_w0 {n : Nat} {text : List UInt8} {b0_ : PPz} : Con 87 [.ptr 0 0, vS text] [] [[eL 4 enc_Token b0_.tokens, eI b0_.at_]] (F_w0 n text b0_) (fun r => oR (vB r.1)) (fun r => [[eL 4 enc_Token b0_.tokens, eI r.2]]) :=
 Fw Tryz.func87 rfl fun h => G (Bd h fun r1 q1 h => Sq (Gn (c_bc0.of q1) (C h (fun h => G (Rt (tr_ (Pr h)))) fun h => Sk (tn_ (G (G (Rt (Pr h))))))))
theorem c_g0 {n : Nat} {text : List UInt8} {b0_ : PPz} : Con 85 [.ptr 0 0, vS text] [] [[eL 4 enc_Token b0_.tokens, eI b0_.at_]] (F_g0 n text b0_) (fun r => Pn.on r (fun za zb => oR (.tup [])) (fun zx zb => .pan zx)) (fun r => Pn.on r (fun za zb => [[eL 4 enc_Token b0_.tokens, eI zb]]) (fun zx zb => [[eL 4 enc_Token b0_.tokens, eI zb]])) :=
 Fw Tryz.func85 rfl fun h => Bd h fun r1 q1 h => Gw (c_w0.of q1) (C h (fun h => Bp h (fun r4 r5 q3 h => Rn (c_t0.of q3) (Pm h)) fun x6 r5
 q3 h => RP x6 [orn (c_t0.of q3) []] (A_ (c_t0.of q3) Z_) (Pp h)) fun h => Sk (Pm h))
abbrev I_a0 (f : Int → Int → PPz → Option (Pn Expr Int)) : Prop := ∀ (level : Int) (depth : Int) (b0_ : PPz), Con 33 [.ptr 0 0, vI level, vI depth] [] [[eL 4 enc_Token b0_.tokens, eI b0_.at_]] (f level depth b0_) (fun r => Pn.on r (fun za zb => oR (.v (.agg [.int .i64 za.Op, .int .i64 za.N, .str za.S, encL 4 enc_Expr za.Args]))) (fun zx zb => .pan zx)) (fun r => Pn.on r (fun za zb => [[eL 4 enc_Token b0_.tokens, eI zb]]) (fun zx zb => [[eL 4 enc_Token b0_.tokens, eI zb]]))
abbrev I_e0 (f : Int → Int → Int → PPz → Option (Pn Expr Int)) : Prop := ∀ (op : Int) (level : Int) (depth : Int) (b0_ : PPz), Con 75 [.ptr 0 0, vI op, vI level, vI depth] [] [[eL 4 enc_Token b0_.tokens, eI b0_.at_]] (f op level depth b0_) (fun r => Pn.on r (fun za zb => oR (.v (.agg [.int .i64 za.Op, .int .i64 za.N, .str za.S, encL 4 enc_Expr za.Args]))) (fun zx zb => .pan zx)) (fun r => Pn.on r (fun za zb => [[eL 4 enc_Token b0_.tokens, eI zb]]) (fun zx zb => [[eL 4 enc_Token b0_.tokens, eI zb]]))
abbrev I_b0 (f : Int → PPz → Option (Pn Expr Int)) : Prop := ∀ (depth : Int) (b0_ : PPz), Con 76 [.ptr 0 0, vI depth] [] [[eL 4 enc_Token b0_.tokens, eI b0_.at_]] (f depth b0_) (fun r => Pn.on r (fun za zb => oR (.v (.agg [.int .i64 za.Op, .int .i64 za.N, .str za.S, encL 4 enc_Expr za.Args]))) (fun zx zb => .pan zx)) (fun r => Pn.on r (fun za zb => [[eL 4 enc_Token b0_.tokens, eI zb]]) (fun zx zb => [[eL 4 enc_Token b0_.tokens, eI zb]]))
abbrev I_d0 (f : Int → PPz → Option (Pn Expr Int)) : Prop := ∀ (depth : Int) (b0_ : PPz), Con 123 [.ptr 0 0, vI depth] [] [[eL 4 enc_Token b0_.tokens, eI b0_.at_]] (f depth b0_) (fun r => Pn.on r (fun za zb => oR (.v (.agg [.int .i64 za.Op, .int .i64 za.N, .str za.S, encL 4 enc_Expr za.Args]))) (fun zx zb => .pan zx)) (fun r => Pn.on r (fun za zb => [[eL 4 enc_Token b0_.tokens, eI zb]]) (fun zx zb => [[eL 4 enc_Token b0_.tokens, eI zb]]))
theorem cB_a0 {n : Nat} {f_a0 : Int → Int → PPz → Option (Pn Expr Int)} {f_e0 : Int → Int → Int → PPz → Option (Pn Expr Int)} {f_b0 : Int → PPz → Option (Pn Expr Int)} {f_d0 : Int → PPz → Option (Pn Expr Int)} (i_a0 : I_a0 f_a0) (i_e0 : I_e0 f_e0) (i_b0 : I_b0 f_b0) (i_d0 : I_d0 f_d0) : I_a0 (B_a0 n f_a0 f_e0 f_b0 f_d0) := fun level depth b0_ =>
 Fw Tryz.func33 rfl fun h => G (Sq (G (Bk (G (C h (fun h => Bd h fun r2 q2 h => Sq (Gn (c_bc0.of q2) (C h (fun h => Bp h (fun r5 r6 q4 h => Gw
 ((i_e0 _ _ _ _).of q4) (Rt (tr_ (br_ (tr_ (Pr h)))))) fun x7 r6 q4 h => Sq (RP x7 [orc ((i_e0 _ _ _ _).of q4) []]
 (A_ ((i_e0 _ _ _ _).of q4) Z_) (tp_ (tp_ (bp_ (tp_ (Pp h))))))) fun h => Sk (tn_ (Bp h (fun r9 r10 q8 h => Gw ((i_a0 _ _ _).of q8) (Rt
 (br_ (tr_ (Pr h))))) fun x11 r10 q8 h => Sq (RP x11 [orc ((i_a0 _ _ _).of q8) []] (A_ ((i_a0 _ _ _).of q8) Z_) (tp_ (bp_ (tp_ (Pp
 h)))))))))) fun h => G (C h (fun h => Bd h fun r13 q13 h => Sq (Gn (c_bc0.of q13) (C h (fun h => Bp h (fun r16 r17 q15 h => Gw
 ((i_e0 _ _ _ _).of q15) (Rt (tr_ (br_ (tr_ (Pr h)))))) fun x18 r17 q15 h => Sq (RP x18 [orc ((i_e0 _ _ _ _).of q15) []]
 (A_ ((i_e0 _ _ _ _).of q15) Z_) (tp_ (tp_ (bp_ (tp_ (Pp h))))))) fun h => Sk (tn_ (Bp h (fun r20 r21 q19 h => Gw ((i_b0 _ _).of q19) (Rt
 (br_ (tr_ (Pr h))))) fun x22 r21 q19 h => Sq (RP x22 [orc ((i_b0 _ _).of q19) []] (A_ ((i_b0 _ _).of q19) Z_) (tp_ (bp_ (tp_ (Pp
 h)))))))))) fun h => Sk (bn_ (tn_ (Bp h (fun r24 r25 q23 h => Gw ((i_a0 _ _ _).of q23) (Bk (L5
 (fun v37 v38 v39 v40 v41 => ⟨[(0, eP 0 0), (1, eI level), (2, eI depth), (6, eP 1 0), (7, eP 2 0)], [(0, [eL 4 enc_Token b0_.tokens, eI v37]), (1, [eI 0, eI 0, eS ([] : List UInt8), ⟨.v (encL 4 enc_Expr ([] : List Expr)), (some 26)⟩]), (2, [eI v38, eI v39, eS v40, eL 4 enc_Expr v41])], 3⟩)
 (F_a0_l1 n f_a0 f_e0 f_b0 f_d0 level depth b0_)
 (F_a0_b1 n f_a0 f_e0 f_b0 f_d0 level depth b0_) h fun k1 v37 v38 v39 v40 v41 h => Bk
 (Bd h fun r42 q42 h => Gn (c_ce0.of q42) (Sq (G (C h (fun h => G (Rt (tr_ (br_ (tr_ (br_ (Pr h))))))) fun h => Sk (tn_ (G (Bp h (fun r44 r45 q43 h => Hd
 [(6, [orc ((i_a0 _ _ _).of q43) []]), (7, [.val (encL 4 enc_Expr ([(⟨v38, v39, v40, v41⟩ : Expr), r44] : List Expr))])]
 (A_ (vimp_lit2 (k := 4) (e := enc_Expr) (xs := [.agg [.int .i64 v38, .int .i64 v39, .str v40, encL 4 enc_Expr v41], .agg [.int .i64 r44.Op, .int .i64 r44.N, .str r44.S, encL 4 enc_Expr r44.Args]]) (l := ([(⟨v38, v39, v40, v41⟩ : Expr), r44] : List Expr)) ((AllV.cons (rev_Expr (⟨v38, v39, v40, v41⟩ : Expr)) (AllV.cons (rev_Expr r44) (AllV.nil)))) 2 rfl) (A_ ((i_a0 _ _ _).of q43) Z_))
 (G (C h (fun h => G (Rt (br_ (tr_ (br_ (Pr h)))))) fun h => Sk (bn_ (E5 h))))) fun x46 r45 q43 h => Sq (RDP 6 x46 [(6, [orc ((i_a0 _ _ _).of q43) []])]
 (A_ ((i_a0 _ _ _).of q43) Z_) fun _ => tp_ (bp_ (tp_ (bp_ (Pp h))))))))))))))) fun x26 r25 q23 h => Sq (RP x26
 [orc ((i_a0 _ _ _).of q23) []] (A_ ((i_a0 _ _ _).of q23) Z_) (tp_ (Pp h))))))))))))
theorem cB_e0 {n : Nat} {f_a0 : Int → Int → PPz → Option (Pn Expr Int)} {f_e0 : Int → Int → Int → PPz → Option (Pn Expr Int)} {f_b0 : Int → PPz → Option (Pn Expr Int)} {f_d0 : Int → PPz → Option (Pn Expr Int)} (i_a0 : I_a0 f_a0) (i_e0 : I_e0 f_e0) (i_b0 : I_b0 f_b0) (i_d0 : I_d0 f_d0) : I_e0 (B_e0 n f_a0 f_e0 f_b0 f_d0) := fun op level depth b0_ =>
 Fw Tryz.func75 rfl fun h => G (Bp h (fun r2 r3 q1 h => Gn (c_ae0.of q1) (G (Bp h (fun r6 r7 q5 h => Ho
 [orc ((i_a0 _ _ _).of q5) [], .val (encL 4 enc_Expr ([r6] : List Expr))]
 (A_ (vimp_lit2 (k := 4) (e := enc_Expr) (xs := [.agg [.int .i64 r6.Op, .int .i64 r6.N, .str r6.S, encL 4 enc_Expr r6.Args]]) (l := ([r6] : List Expr)) (AllV.cons (rev_Expr r6) (AllV.nil)) 1 rfl) (A_ ((i_a0 _ _ _).of q5) Z_))
 (Rt (Pr h))) fun x8 r7 q5 h => Sq (RP x8 [orc ((i_a0 _ _ _).of q5) []] (A_ ((i_a0 _ _ _).of q5) Z_) (tp_ (Pp h)))))) fun x4 r3 q1 h => Sq
 (RP x4 [orn (c_ae0.of q1) []] (A_ (c_ae0.of q1) Z_) (tp_ (Pp h))))
theorem cB_b0 {n : Nat} {f_a0 : Int → Int → PPz → Option (Pn Expr Int)} {f_e0 : Int → Int → Int → PPz → Option (Pn Expr Int)} {f_b0 : Int → PPz → Option (Pn Expr Int)} {f_d0 : Int → PPz → Option (Pn Expr Int)} (i_a0 : I_a0 f_a0) (i_e0 : I_e0 f_e0) (i_b0 : I_b0 f_b0) (i_d0 : I_d0 f_d0) : I_b0 (B_b0 n f_a0 f_e0 f_b0 f_d0) := fun depth b0_ =>
 Fw Tryz.func76 rfl fun h => G (K1
 (fun v2 => ⟨[(0, eP 0 0), (1, eI depth), (4, eP 1 0)], [(0, [eL 4 enc_Token b0_.tokens, eI v2]), (1, [eI 0, eI 0, eS ([] : List UInt8), ⟨.v (encL 4 enc_Expr ([] : List Expr)), (some 26)⟩])], 2⟩)
 (F_b0_j1 n f_a0 f_e0 f_b0 f_d0 depth b0_) (Hd [] Z_ (C h (fun h => As h fun g1 h => Hd
 [(8, [.raw])] (A_ g1 Z_) (G (Sq (G (Bk (G (C h (fun h => Ho [.own] Z_ (Rt (br_ (tr_ (tr_ (Pr h)))))) fun h => G (C h (fun h => Ho [.own] Z_ (Rt (br_ (tr_ (tr_ (Pr h))))))
 fun h => G (C h (fun h => Ho [.own] Z_ (Rt (br_ (tr_ (tr_ (Pr h)))))) fun h => Sk (bn_ (tn_ (Rk (E1 h))))))))))))) fun h => Sk (E1 h))) fun v2 h => Bd h fun r3 q3 h => Gn
 (c_cj0.of q3) (K0
 ⟨[(0, eP 0 0), (1, eI depth), (4, eP 1 0), (6, eI r3)], [(0, [eL 4 enc_Token b0_.tokens, eI v2]), (1, [eI 0, eI 0, eS ([] : List UInt8), ⟨.v (encL 4 enc_Expr ([] : List Expr)), (some 26)⟩])], 2⟩
 (F_b0_j2 n f_a0 f_e0 f_b0 f_d0 depth r3 b0_ v2) (G (Bk (G (C h (fun h => K0
 ⟨[(0, eP 0 0), (1, eI depth), (4, eP 1 0)], [(0, [eL 4 enc_Token b0_.tokens, eI v2]), (1, [eI 0, eI 0, eS ([] : List UInt8), ⟨.v (encL 4 enc_Expr ([] : List Expr)), (some 26)⟩])], 2⟩
 (F_b0_j3 n f_a0 f_e0 f_b0 f_d0 depth b0_ v2) (Bd h fun r4 q4 h => Gn
 (c_bc0.of q4) (C h (fun h => Bp h (fun r6 r7 q5 h => Rn (c_t0.of q5) (E0 h)) fun x8 r7 q5 h => RP x8 [orn (c_t0.of q5) []]
 (A_ (c_t0.of q5) Z_) (tp_ (bp_ (tp_ (Pp h))))) fun h => Sk (E0 h))) fun h => Bp h (fun r10 r11 q9 h => Bp h (fun r14 r15 q13 h => Ho
 [orn (c_ae0.of q9) [], orc ((i_d0 _ _).of q13) []] (A_ ((i_d0 _ _).of q13) (A_ (c_ae0.of q9) Z_)) (Rt
 (br_ (tr_ (Pr h))))) fun x16 r15 q13 h => Sq (RP x16 [orn (c_ae0.of q9) [], orc ((i_d0 _ _).of q13) []]
 (A_ ((i_d0 _ _).of q13) (A_ (c_ae0.of q9) Z_)) (tp_ (bp_ (tp_ (Pp h)))))) fun x12 r11 q9 h => Sq (RP x12
 [orn (c_ae0.of q9) []] (A_ (c_ae0.of q9) Z_) (tp_ (bp_ (tp_ (Pp h)))))) fun h => K1
 (fun v17 => ⟨[(0, eP 0 0), (1, eI depth), (4, eP 1 0), (6, eI r3), (73, eB v17)], [(0, [eL 4 enc_Token b0_.tokens, eI v2]), (1, [eI 0, eI 0, eS ([] : List UInt8), ⟨.v (encL 4 enc_Expr ([] : List Expr)), (some 26)⟩])], 2⟩)
 (F_b0_j4 n f_a0 f_e0 f_b0 f_d0 depth r3 b0_ v2) (G (C h (fun h => Sk (E1 h)) fun h =>
 G (C h (fun h => Sk (E1 h)) fun h => Rk (E1 h)))) fun v17 h => C h (fun h => G (Bp h (fun r19 r20 q18 h => Gw (c_g0.of q18) (Bp h (fun r23 r24 q22 h =>
 Gw (c_g0.of q22) (Ho [.own] Z_ (Rt (br_ (tr_ (Pr h)))))) fun x25 r24 q22 h => Sq (RP x25 [orc (c_g0.of q22) []]
 (A_ (c_g0.of q22) Z_) (tp_ (bp_ (tp_ (Pp h))))))) fun x21 r20 q18 h => Sq (RP x21 [orc (c_g0.of q18) []]
 (A_ (c_g0.of q18) Z_) (tp_ (bp_ (tp_ (Pp h))))))) fun h => Sk (bn_ (E0 h)))))) fun h => Bp h (fun r27 r28 q26 h => Gn (c_ae0.of q26) (G
 (Bp h (fun r31 r32 q30 h => Ho [orc ((i_d0 _ _).of q30) [], .val (encL 4 enc_Expr ([r31] : List Expr))]
 (A_ (vimp_lit2 (k := 4) (e := enc_Expr) (xs := [.agg [.int .i64 r31.Op, .int .i64 r31.N, .str r31.S, encL 4 enc_Expr r31.Args]]) (l := ([r31] : List Expr)) (AllV.cons (rev_Expr r31) (AllV.nil)) 1 rfl) (A_ ((i_d0 _ _).of q30) Z_))
 (Rt (Pr h))) fun x33 r32 q30 h => Sq (RP x33 [orc ((i_d0 _ _).of q30) []] (A_ ((i_d0 _ _).of q30) Z_) (tp_ (Pp h)))))) fun x29 r28 q26
 h => Sq (RP x29 [orn (c_ae0.of q26) []] (A_ (c_ae0.of q26) Z_) (tp_ (Pp h)))))
theorem cB_d0 {n : Nat} {f_a0 : Int → Int → PPz → Option (Pn Expr Int)} {f_e0 : Int → Int → Int → PPz → Option (Pn Expr Int)} {f_b0 : Int → PPz → Option (Pn Expr Int)} {f_d0 : Int → PPz → Option (Pn Expr Int)} (i_a0 : I_a0 f_a0) (i_e0 : I_e0 f_e0) (i_b0 : I_b0 f_b0) (i_d0 : I_d0 f_d0) : I_d0 (B_d0 n f_a0 f_e0 f_b0 f_d0) := fun depth b0_ =>
 Fw Tryz.func123 rfl fun h => G (Bp h (fun r2 r3 q1 h => Gw (c_g0.of q1) (Bp h (fun r6 r7 q5 h => Gw ((i_a0 _ _ _).of q5) (Bp h (fun r10
 r11 q9 h => Gw (c_g0.of q9) (G (Rt (Pr h)))) fun x12 r11 q9 h => Sq (RP x12 [orc (c_g0.of q9) []]
 (A_ (c_g0.of q9) Z_) (tp_ (Pp h))))) fun x8 r7 q5 h => Sq (RP x8 [orc ((i_a0 _ _ _).of q5) []]
 (A_ ((i_a0 _ _ _).of q5) Z_) (tp_ (Pp h))))) fun x4 r3 q1 h => Sq (RP x4 [orc (c_g0.of q1) []] (A_ (c_g0.of q1) Z_)
 (tp_ (Pp h))))
theorem cS_a0 (n : Nat) : I_a0 (F_a0 n) ∧ I_e0 (F_e0 n) ∧ I_b0 (F_b0 n) ∧ I_d0 (F_d0 n) := by
 induction n with
 | zero => exact ⟨fun level depth b0_ => ⟨fun h => no_ h⟩, fun op level depth b0_ => ⟨fun h => no_ h⟩, fun depth b0_ => ⟨fun h => no_ h⟩, fun depth b0_ => ⟨fun h => no_ h⟩⟩
 | succ m ih => obtain ⟨i0, i1, i2, i3⟩ := ih; exact ⟨cB_a0 (n := m) i0 i1 i2 i3, cB_e0 (n := m) i0 i1 i2 i3, cB_b0 (n := m) i0 i1 i2 i3, cB_d0 (n := m) i0 i1 i2 i3⟩
theorem c_a0 {n : Nat} : I_a0 (F_a0 n) := (cS_a0 n).1
theorem c_eq0 {n : Nat} {b0_ : PPz} {b1_ : Expr} : Con 32 [.ptr 0 0, .ptr 1 0] [] [[eL 4 enc_Token b0_.tokens, eI b0_.at_], [eI b1_.Op, eI b1_.N, eS b1_.S, ⟨.v (encL 4 enc_Expr b1_.Args), (some 26)⟩]] (F_eq0 n b0_ b1_) (fun r => Pn.on r (fun za zb => oR (.tup [])) (fun zx zb => .pan zx)) (fun r => Pn.on r (fun za zb => [[eL 4 enc_Token b0_.tokens, eI zb.1], [eI zb.2.1, eI zb.2.2.1, eS zb.2.2.2.1, eL 4 enc_Expr zb.2.2.2.2]]) (fun zx zb => [[eL 4 enc_Token b0_.tokens, eI zb.1], [eI zb.2.1, eI zb.2.2.1, eS zb.2.2.2.1, eL 4 enc_Expr zb.2.2.2.2]])) :=
 Fw Tryz.func32 rfl fun h => Bp h (fun r2 r3 q1 h => Rw ((c_a0 _ _ _).of q1) (Pm h)) fun x4 r3 q1 h => RP x4 [orc ((c_a0 _ _ _).of q1) []]
 (A_ ((c_a0 _ _ _).of q1) Z_) (Pp h)
theorem d0_da0 (a b : Int) : DCalls Tryz.prog 72 [.ptr 0 0, .ptr 1 0] [[⟨.v (.int .i64 a), none⟩], [⟨.v (.int .i64 b), none⟩]] none (fun H' => H' = [[⟨.v (.int .i64 a), none⟩], [⟨.v (.int .i64 b), none⟩]]) := by
  refine DCalls.of_recover tt_ok Tryz.func72 rfl rfl rfl rfl rfl rfl rfl rfl rfl rfl (by kernel_rfl) (by kernel_rfl) (by kernel_rfl) ?_
  refine AWp.seq (AWp.rg tt_ok [] (by kernel_rfl) all_nil ?_)
  refine AE.then_normal ?_
  refine AWp.cndF (by kernel_rfl) ?_
  exact AWp.skip (post_normal (by kernel_rfl))
theorem d1_da0 (a b l c : Int) : DCalls Tryz.prog 72 [.ptr 0 0, .ptr 1 0] [[⟨.v (.int .i64 a), none⟩], [⟨.v (.int .i64 b), none⟩]] (some (.iface 114 (.agg [.int .i64 l, .int .i64 c]))) (fun H' => H' = [[⟨.v (.int .i64 l), none⟩], [⟨.v (.int .i64 c), none⟩]]) := by
  refine DCalls.of_recover tt_ok Tryz.func72 rfl rfl rfl rfl rfl rfl rfl rfl rfl rfl (by kernel_rfl) (by kernel_rfl) (by kernel_rfl) ?_
  refine AWp.seq (AWp.rg tt_ok [] (by kernel_rfl) all_nil ?_)
  refine AE.then_normal ?_
  refine AWp.cndT (by kernel_rfl) ?_
  refine AWp.seq (AWp.rg tt_ok [] (by kernel_rfl) all_nil ?_)
  refine AE.then_normal ?_
  refine AWp.seq (AWp.seq (AWp.rg tt_ok [] (by kernel_rfl) all_nil ?_))
  refine AE.then_normal ?_
  refine AWp.cndF (by kernel_rfl) ?_
  refine AWp.skip (AE.then_normal ?_)
  refine AWp.rgD tt_ok mo_ok [] (by kernel_rfl) all_nil ?_
  exact post_normal (by kernel_rfl)
theorem c_da0 {n : Nat} {src : List UInt8} {b0_ : Expr} {r : Int × Int × Int × Int × (List UInt8) × (List Expr)} (h : F_da0 n src b0_ = some r) : saysOf Tryz.prog 31 [vS src, .fn 32 [.ptr 0 0]] [] [[eI b0_.Op, eI b0_.N, eS b0_.S, ⟨.v (encL 4 enc_Expr b0_.Args), (some 26)⟩]] (oR (.tup [vI r.1, vI r.2.1])) [[eI r.2.2.1, eI r.2.2.2.1, eS r.2.2.2.2.1, eL 4 enc_Expr r.2.2.2.2.2]] := by
  refine ACalls.of_dwp (tt := tt) Tryz.func31 rfl rfl rfl ?_
  unfold F_da0 at h
  refine DWp.seq tt_ok ?_
  refine AWp.rg tt_ok [] (by kernel_rfl) all_nil ?_
  refine DPost_normal (DWp.seq tt_ok ?_)
  obtain ⟨r1, hr1, h⟩ := bind_some h
  have p1 := c_p0.of hr1
  refine AWp.rg tt_ok [orn p1 []] (by kernel_rfl) (all_cons p1 all_nil) ?_
  refine DPost_normal (DWp.seq tt_ok ?_)
  refine AWp.seq (AWp.rg tt_ok [] (by kernel_rfl) all_nil ?_)
  refine AE.then_normal ?_
  refine AWp.cnd h (by kernel_rfl) ?_ ?_ <;> clear h <;> intro h
  · refine AWp.seq ?_
    refine AWp.rgD tt_ok mo_ok [] (by kernel_rfl) all_nil ?_
    refine AE.then_normal ?_
    refine AWp.ret ?_
    obtain rfl := Option.some.inj h
    exact DPost_ret (by kernel_rfl)
  · refine AWp.skip ?_
    refine DPost_normal ?_
    refine DWp.defer tt_ok rfl rfl rfl rfl rfl rfl rfl rfl rfl (by kernel_rfl) (ds := [.ptr 1 0, .ptr 2 0]) (by kernel_rfl) (by kernel_rfl) Tryz.func72 rfl rfl (by kernel_rfl) ?_
    refine AWp.seq (AWp.rg tt_ok [] (by kernel_rfl) all_nil ?_)
    refine AE.then_normal ?_
    refine AWp.seq ?_
    obtain ⟨r2, hr2, h⟩ := bind_some h
    have p2 := c_eq0.of hr2
    cases r2 with
    | ret za zm =>
      refine AWp.rg tt_ok [orc p2 []] (by kernel_rfl) (all_cons p2 all_nil) ?_
      refine AE.then_normal ?_
      refine AWp.seq (AWp.seq (AWp.rgD tt_ok mo_ok [] (by kernel_rfl) all_nil ?_))
      refine AE.then_normal ?_
      refine AWp.cnd h (by kernel_rfl) ?_ ?_ <;> clear h <;> intro h
      · obtain ⟨r3, hr3, h⟩ := bind_some h
        have p3 := c_t0.of hr3
        cases r3 with
        | ret zb zc =>
          have h2 : (none : Option _) = some r := h
          cases h2
        | pan zx zc =>
          obtain ⟨lc, hlc, h⟩ := bind_some h
          obtain rfl := Option.some.inj h
          obtain rfl := asFail_some hlc
          refine AWp.rgP tt_ok [orn p3 []] (x := .iface 114 (.agg [.int .i64 lc.1, .int .i64 lc.2])) (by kernel_rfl) (all_cons p3 all_nil) ?_
          exact AE.then_pan (LPost_pan (Fin1.of [1, 2] (d1_da0 r1.2.1 r1.2.2 lc.1 lc.2) (by kernel_rfl)))
      · refine AWp.skip ?_
        obtain rfl := Option.some.inj h
        refine AE.then_normal ?_
        refine AWp.seq (AWp.rg tt_ok [] (by kernel_rfl) all_nil ?_)
        refine AE.then_normal ?_
        exact AWp.ret (LPost_ret (Fin1.of [1, 2] (d0_da0 0 0) (by kernel_rfl)))
    | pan zx zm =>
      obtain ⟨lc, hlc, h⟩ := bind_some h
      obtain rfl := Option.some.inj h
      obtain rfl := asFail_some hlc
      refine AWp.rgP tt_ok [orc p2 []] (x := .iface 114 (.agg [.int .i64 lc.1, .int .i64 lc.2])) (by kernel_rfl) (all_cons p2 all_nil) ?_
      exact AE.then_pan (LPost_pan (Fin1.of [1, 2] (d1_da0 r1.2.1 r1.2.2 lc.1 lc.2) (by kernel_rfl)))
theorem c_cy0 {n : Nat} {src : List UInt8} : Con 12 [vS src] [] [] (F_cy0 n src) (fun r => oR (.tup [.v (.agg [.int .i64 r.1.Op, .int .i64 r.1.N, .str r.1.S, encL 4 enc_Expr r.1.Args]), vI r.2.1, vI r.2.2])) (fun _ => []) :=
 Fw Tryz.func12 rfl fun h => G (G (Bd h fun r1 q1 h => Gw (c_da0 q1) (K1
 (fun v3 => ⟨[(2, eP 0 0), (5, eP 1 0), (6, eI r1.1), (7, eI v3)], [(0, [eI 0, eI 0, eS ([] : List UInt8), ⟨.v (encL 4 enc_Expr ([] : List Expr)), (some 26)⟩]), (1, [eI r1.2.2.1, eI r1.2.2.2.1, eS r1.2.2.2.2.1, eL 4 enc_Expr r1.2.2.2.2.2])], 2⟩)
 (F_cy0_j1 n r1) (G (C h (fun h => Bd h fun r2 q2 h => Rn (c_cx0.of q2) (E1 h)) fun h => Sk (E1 h))) fun v3 h => Sq (G (C h (fun h => Ho [.own] Z_ (Rt
 (tr_ (Pr h)))) fun h => Sk (tn_ (G (Rt (Pr h)))))))))
theorem c_ei0 {n : Nat} {y : Param} {b0_ : Param} : Con 107 [.v (.agg [.str y.Name, .int .i64 y.Type_]), .ptr 0 0] [] [[eS b0_.Name, eI b0_.Type_]] (F_ei0 n y b0_) (fun r => oR (vB r)) (fun _ => [[eS b0_.Name, eI b0_.Type_]]) :=
 Fw Tryz.func107 rfl fun h => G (G (Rt (Pr h)))
theorem c_ao0 {n : Nat} {s : List Param} {b0_ : Param} : Con 143 [vL 2 enc_Param s, .fn 107 [.ptr 0 0]] [] [[eS b0_.Name, eI b0_.Type_]] (F_ao0 n s b0_) (fun r => oR (vI r)) (fun _ => [[eS b0_.Name, eI b0_.Type_]]) :=
 Fw Tryz.func143 rfl fun h => G (K0 ⟨[], [(0, [eS b0_.Name, eI b0_.Type_])], 1⟩ (F_ao0_j1 n b0_) (G (Bk (L1
 (fun v4 => ⟨[(0, eL 2 enc_Param s), (1, ⟨.fn 107 [.ptr 0 0], none⟩), (7, eI ((s.length : Nat) : Int)), (8, eI v4)], [(0, [eS b0_.Name, eI b0_.Type_])], 1⟩)
 (F_ao0_l2 n s b0_) (F_ao0_b2 n s b0_) h fun k2 v4 h => G (Sq (C h (fun h => Sk (tn_ (Sq (Bk (G (As h fun g5 h => Bd h fun r6 q6 h =>
 Ho [.raw, orn (c_ei0.of q6) []] (A_ (c_ei0.of q6) (A_ g5 Z_)) (C h (fun h => G (Rt (br_ (tr_ (tr_ (br_ (tr_ (Pr h)))))))) fun h => Sk (bn_ (tn_ (Rk (E1
 h))))))))))) fun h => Ex (tx_ (tx_ (bh_ (E0 h))))))))) fun h => G (Rt (Pr h)))
theorem c_cc0 {n : Nat} {s : List Param} {b0_ : Param} : Con 106 [vL 2 enc_Param s, .fn 107 [.ptr 0 0]] [] [[eS b0_.Name, eI b0_.Type_]] (F_cc0 n s b0_) (fun r => oR (vB r)) (fun _ => [[eS b0_.Name, eI b0_.Type_]]) :=
 Fw Tryz.func106 rfl fun h => G (Bd h fun r1 q1 h => Gn (c_ao0.of q1) (Rt (Pr h)))
theorem c_bv0 {n : Nat} {l : List Param} : Con 51 [vL 2 enc_Param l] [] [] (F_bv0 n l) (fun r => oR (vI r)) (fun _ => []) :=
 Fw Tryz.func51 rfl fun h => G (Sq (G (C h (fun h => G (Rt (tr_ (Pr h)))) fun h => Sk (tn_ (K0 ⟨[], [], 0⟩ (F_bv0_j1 n) (G (Bk (L1
 (fun v7 => ⟨[(0, eL 2 enc_Param l), (8, eL 2 enc_Param l), (9, eI ((l.length : Nat) : Int)), (10, eI v7)], [], 0⟩) (F_bv0_l2 n l) (F_bv0_b2 n l) h fun k2 v7
 h => G (Sq (C h (fun h => Sk (tn_ (Sq (Bk (As h fun g8 h => Ho [.raw] (A_ g8 Z_) (Bk (Bd h fun r9 q9 h => Gn (c_cb0.of q9) (C h (fun h => G (Rt (br_ (br_ (tr_
 (tr_ (br_ (tr_ (Pr h))))))))) fun h => G (C h (fun h => G (Rt (br_ (br_ (tr_ (tr_ (br_ (tr_ (Pr h))))))))) fun h => As h fun g10 h => Bd h fun r11 q11 h => Ho
 [.val (encL 2 enc_Param (l.take (v7).toNat)), orn (c_cc0.of q11) []]
 (A_ (c_cc0.of q11) (A_ (vimp_take (k := 2) (e := enc_Param) l v7 (upB_spec g10)) (A_ g10 Z_))) (C h (fun h => G (Rt (br_ (br_ (tr_ (tr_ (br_ (tr_
 (Pr h))))))))) fun h => Sk (bn_ (bn_ (tn_ (Rk (E1 h))))))))))))))) fun h => Ex (tx_ (tx_ (bh_ (E0 h))))))))) fun h => G (Rt (Pr h)))))))
theorem c_du0 {n : Nat} {e : Expr} : Con 145 [.v (.agg [.int .i64 e.Op, .int .i64 e.N, .str e.S, encL 4 enc_Expr e.Args])] [] [] (F_du0 n e) (fun r => oR (vB r)) (fun _ => []) :=
 Fw Tryz.func145 rfl fun h => G (G (Rt (Pr h)))
theorem c_es0 {n : Nat} {s : Stmt} {u : ast_uses} : Con 110 [.v (.agg [.int .i64 s.Op, .str s.Name, .int .i64 s.Max, .int .i64 s.A.Op, .int .i64 s.A.N, .str s.A.S, encL 4 enc_Expr s.A.Args, .int .i64 s.B.Op, .int .i64 s.B.N, .str s.B.S, encL 4 enc_Expr s.B.Args, encL 13 enc_Stmt s.Body, encL 13 enc_Stmt s.Else]), .v (.agg [.bool u.name, .bool u.a, .bool u.b, .bool u.max, .bool u.body, .bool u.other])] [] [] (F_es0 n s u) (fun r => oR (vB r)) (fun _ => []) :=
 Fw Tryz.func110 rfl fun h => G (Bd h fun r1 q1 h => Hv (fun c1 c2 => c_du0.of (cond_t (and_t (not_t c1) c2) q1)) fun p1 => Bd h fun r2 q2 h => Hv
 (fun c1 c2 => c_du0.of (cond_t (and_t (not_t c1) c2) q2)) fun p2 => Sq (Ho [orn2 p1, orn2 p2] (A_ p2 (A_ p1 Z_)) (C h (fun h => G (Rt (tr_ (Pr h)))) fun h => Sk
 (tn_ (Sq (G (Bk (G (C h (fun h => G (Rt (br_ (tr_ (Pr h))))) fun h => G (C h (fun h => G (Rt (br_ (tr_ (Pr h))))) fun h => Sk (bn_ (tn_ (G (Rt (Pr h)))))))))))))))
theorem c_by0 {n : Nat} {op : Int} : Con 109 [vI op] [] [] (F_by0 n op) (fun r => oR (.tup [.v (.agg [.bool r.1.name, .bool r.1.a, .bool r.1.b, .bool r.1.max, .bool r.1.body, .bool r.1.other]), vB r.2])) (fun _ => []) :=
 Fw Tryz.func109 rfl fun h => G (K0 ⟨[(2, eP 0 0)], [(0, [eB false, eB false, eB false, eB false, eB false, eB false])], 1⟩ (F_by0_j1 n) (G (Bk (K1
 (fun v1 => ⟨[(2, eP 0 0), (4, eI op), (5, eB v1)], [(0, [eB false, eB false, eB false, eB false, eB false, eB false])], 1⟩) (F_by0_j2 n op) (G (C h (fun h => Sk
 (E1 h)) fun h => Rk (E1 h))) fun v1 h => C h (fun h => G (Rt (br_ (tr_ (Pr h))))) fun h => G (C h (fun h => G (Rt (br_ (tr_ (Pr h))))) fun h => K1
 (fun v2 => ⟨[(2, eP 0 0), (4, eI op), (12, eB v2)], [(0, [eB false, eB false, eB false, eB false, eB false, eB false])], 1⟩) (F_by0_j3 n op) (G (C h (fun h => Sk
 (E1 h)) fun h => Rk (E1 h))) fun v2 h => C h (fun h => G (Rt (br_ (tr_ (Pr h))))) fun h => G (C h (fun h => G (Rt (br_ (tr_ (Pr h))))) fun h => G (C h (fun h => G (Rt
 (br_ (tr_ (Pr h))))) fun h => G (C h (fun h => G (Rt (br_ (tr_ (Pr h))))) fun h => Sk (bn_ (E0 h))))))))) fun h => G (Rt (Pr h)))
theorem c_bu0 {n : Nat} {s : Stmt} {depth : Int} : Con 54 [.v (.agg [.int .i64 s.Op, .str s.Name, .int .i64 s.Max, .int .i64 s.A.Op, .int .i64 s.A.N, .str s.A.S, encL 4 enc_Expr s.A.Args, .int .i64 s.B.Op, .int .i64 s.B.N, .str s.B.S, encL 4 enc_Expr s.B.Args, encL 13 enc_Stmt s.Body, encL 13 enc_Stmt s.Else]), vI depth] [] [] (F_bu0 n s depth) (fun r => oR (vI r)) (fun _ => []) :=
 Fw Tryz.func54 rfl fun h => G (Bd h fun r1 q1 h => Gn (c_by0.of q1) (Bd h fun r2 q2 h => Hv (fun c1 => c_es0.of (cond_t (not_t c1) q2)) fun p2 => Sq (Ho
 [orn1 p2] (A_ p2 Z_) (C h (fun h => G (Rt (tr_ (Pr h)))) fun h => Sk (tn_ (Bd h fun r4 q4 h => Hv (fun c1 => c_cb0.of (cond_t c1 q4)) fun p4 => Sq (Ho [orn1 p4]
 (A_ p4 Z_) (C h (fun h => G (Rt (tr_ (Pr h)))) fun h => Sk (tn_ (K0
 ⟨[(1, eI depth), (2, eP 0 0), (5, eP 1 0)], [(0, [eI s.Op, eS s.Name, eI s.Max, eI s.A.Op, eI s.A.N, eS s.A.S, eL 4 enc_Expr s.A.Args, eI s.B.Op, eI s.B.N, eS s.B.S, eL 4 enc_Expr s.B.Args, eL 13 enc_Stmt s.Body, eL 13 enc_Stmt s.Else]), (1, [eB r1.1.name, eB r1.1.a, eB r1.1.b, eB r1.1.max, eB r1.1.body, eB r1.1.other])], 2⟩
 (F_bu0_j1 n depth s r1) (G (C h (fun h => Bd h fun r6 q6 h => Gn (c_cx0.of q6) (G (C h (fun h => G (Rt (tr_ (Pr h)))) fun h => Sk (E0 h)))) fun h =>
 Sk (E0 h))) fun h => K0 ⟨[(1, eI depth)], [], 0⟩ (F_bu0_j2 n depth) (G (C h (fun h => Bd h fun r7 q7 h => Gn (c_cx0.of q7) (G (C h (fun h => G (Rt
 (tr_ (Pr h)))) fun h => Sk (E0 h)))) fun h => Sk (E0 h))) fun h => Sq (G (C h (fun h => G (Rt (tr_ (Pr h)))) fun h => Sk (tn_ (G (Rt (Pr h))))))))))))))))
theorem c_dt0 {n : Nat} {s : Stmt} {depth : Int} {b0_ : Int} : Con 53 [.v (.agg [.int .i64 s.Op, .str s.Name, .int .i64 s.Max, .int .i64 s.A.Op, .int .i64 s.A.N, .str s.A.S, encL 4 enc_Expr s.A.Args, .int .i64 s.B.Op, .int .i64 s.B.N, .str s.B.S, encL 4 enc_Expr s.B.Args, encL 13 enc_Stmt s.Body, encL 13 enc_Stmt s.Else]), vI depth, .ptr 0 0] [] [[eI b0_]] (F_dt0 n s depth b0_) (fun _ => oR (.tup [])) (fun r => [[eI r]]) :=
 Fw Tryz.func53 rfl fun h => G (G (C h (fun h => Bd h fun r2 q2 h => Rn (c_bu0.of q2) (Pm h)) fun h => Sk (Pm h)))
theorem c_ep0 {n : Nat} {a0 : Expr} : Con 55 [.v (.agg [.int .i64 a0.Op, .int .i64 a0.N, .str a0.S, encL 4 enc_Expr a0.Args])] [] [] (F_ep0 n a0) (fun _ => oR (.tup [])) (fun _ => []) :=
 Fw Tryz.func55 rfl fun h => Rk (Pm h)
abbrev I_ad0 (f : Expr → Int → Int → Option Int) : Prop := ∀ (e : Expr) (b0_0_ : Int) (b1_ : Int), Con 172 [.ptr 0 0, .v (.agg [.int .i64 e.Op, .int .i64 e.N, .str e.S, encL 4 enc_Expr e.Args])] [] [[eI b0_0_, ⟨.fn 53 [.ptr 1 0], none⟩, ⟨.fn 55 [], none⟩], [eI b1_]] (f e b0_0_ b1_) (fun _ => oR (.tup [])) (fun r => [[eI r, ⟨.fn 53 [.ptr 1 0], none⟩, ⟨.fn 55 [], none⟩], [eI b1_]])
theorem cB_ad0 {n : Nat} {f_ad0 : Expr → Int → Int → Option Int} (i_ad0 : I_ad0 f_ad0) : I_ad0 (B_ad0 n f_ad0) := fun e b0_0_ b1_ =>
 Fw Tryz.func172 rfl fun h => G (Sq (G (C h (fun h => Rt (tr_ (Pr h))) fun h => Sk (tn_ (G (G (Bk (L2
 (fun v6 v7 => ⟨[(0, eP 0 0), (19, eL 4 enc_Expr e.Args), (20, eI ((e.Args.length : Nat) : Int)), (21, eI v7)], [(0, [eI v6, ⟨.fn 53 [.ptr 1 0], none⟩, ⟨.fn 55 [], none⟩]), (1, [eI b1_])], 2⟩)
 (F_ad0_l1 n f_ad0 e b1_) (F_ad0_b1 n f_ad0 e b1_) h fun k1 v6 v7 h => G (Sq (C h (fun h => Sk (tn_ (Sq (Bk (As h fun g8 h
 => Ho [orv (enc_vimp_Expr (e.Args.getD (v7).toNat default))] (A_ (enc_vimp_Expr (e.Args.getD (v7).toNat default)) (A_ g8 Z_)) (Bd h fun r9 q9 h => Rw
 ((i_ad0 _ _ _).of q9) (bn_ (tn_ (Rk (E2 h)))))))))) fun h => Ex (tx_ (tx_ (bh_ (Pm h))))))))))))))
theorem c_ad0 {n : Nat} : I_ad0 (F_ad0 n) := by
 induction n with
 | zero => exact fun e b0_0_ b1_ => ⟨fun h => no_ h⟩
 | succ m ih => exact cB_ad0 (n := m) ih
theorem c_cw0 {n : Nat} {e : Expr} {b0_0_ : Int} {b1_ : Int} : Con 144 [.ptr 0 0, .v (.agg [.int .i64 e.Op, .int .i64 e.N, .str e.S, encL 4 enc_Expr e.Args])] [] [[eI b0_0_, ⟨.fn 53 [.ptr 1 0], none⟩, ⟨.fn 55 [], none⟩], [eI b1_]] (F_cw0 n e b0_0_ b1_) (fun _ => oR (.tup [])) (fun r => [[eI r, ⟨.fn 53 [.ptr 1 0], none⟩, ⟨.fn 55 [], none⟩], [eI b1_]]) :=
 Fw Tryz.func144 rfl fun h => G (Bd h fun r1 q1 h => Hv (fun c1 => c_du0.of (cond_t (not_t c1) q1)) fun p1 => Sq (Ho [orn1 p1] (A_ p1 Z_) (C h (fun h => Rt (tr_ (Pr
 h))) fun h => Sk (tn_ (Bd h fun r3 q3 h => Hd [(5, [orn (c_ep0.of q3) []])] (A_ (c_ep0.of q3) Z_) (Bd h fun r4 q4 h => Rw ((c_ad0 _ _ _).of q4)
 (Pm h)))))))
abbrev I_ab0 (f : (List Stmt) → Int → Int → Int → Option (Int × Int)) : Prop := ∀ (l : List Stmt) (depth : Int) (b0_0_ : Int) (b1_ : Int), Con 108 [.ptr 0 0, vL 13 enc_Stmt l, vI depth] [] [[eI b0_0_, ⟨.fn 53 [.ptr 1 0], none⟩, ⟨.fn 55 [], none⟩], [eI b1_]] (f l depth b0_0_ b1_) (fun _ => oR (.tup [])) (fun r => [[eI r.1, ⟨.fn 53 [.ptr 1 0], none⟩, ⟨.fn 55 [], none⟩], [eI r.2]])
theorem cB_ab0 {n : Nat} {f_ab0 : (List Stmt) → Int → Int → Int → Option (Int × Int)} (i_ab0 : I_ab0 f_ab0) : I_ab0 (B_ab0 n f_ab0) := fun l depth b0_0_ b1_ =>
 Fw Tryz.func108 rfl fun h => G (Bk (L3
 (fun v10 v11 v12 => ⟨[(0, eP 0 0), (2, eI depth), (8, eL 13 enc_Stmt l), (9, eI ((l.length : Nat) : Int)), (10, eI v12)], [(0, [eI v10, ⟨.fn 53 [.ptr 1 0], none⟩, ⟨.fn 55 [], none⟩]), (1, [eI v11])], 2⟩)
 (F_ab0_l1 n f_ab0 depth l) (F_ab0_b1 n f_ab0 depth l) h fun k1 v10 v11 v12 h => G (Sq (C h (fun h => Sk (tn_ (Sq (Bk
 (As h fun g13 h => Ho [orv (enc_vimp_Stmt (l.getD (v12).toNat default))] (A_ (enc_vimp_Stmt (l.getD (v12).toNat default)) (A_ g13 Z_)) (Sq (G (C h (fun h => Rt (tr_ (br_
 (tr_ (tr_ (br_ (Pr h))))))) fun h => Sk (tn_ (G (Bd h fun r14 q14 h => Hd [(6, [orc (c_dt0.of q14) []])] (A_ (c_dt0.of q14) Z_) (Bd h fun r15 q15 h
 => Gw (c_cw0.of q15) (Bd h fun r16 q16 h => Gw (c_cw0.of q16) (Bd h fun r17 q17 h => Gw ((i_ab0 _ _ _ _).of q17) (Bd h fun r18 q18
 h => Rw ((i_ab0 _ _ _ _).of q18) (bn_ (tn_ (Rk (E3 h))))))))))))))))))) fun h => Ex (tx_ (tx_ (bh_ (Pm h))))))))
theorem c_ab0 {n : Nat} : I_ab0 (F_ab0 n) := by
 induction n with
 | zero => exact fun l depth b0_0_ b1_ => ⟨fun h => no_ h⟩
 | succ m ih => exact cB_ab0 (n := m) ih
theorem c_ew0 {n : Nat} {p : Proc} {b0_ : Int} : Con 52 [.v (.agg [.str p.Name, encL 2 enc_Param p.Params, encL 13 enc_Stmt p.Body]), .fn 53 [.ptr 0 0], .fn 55 []] [] [[eI b0_]] (F_ew0 n p b0_) (fun r => oR (vI r.1)) (fun r => [[eI r.2]]) :=
 Fw Tryz.func52 rfl fun h => G (G (Bd h fun r1 q1 h => Gw ((c_ab0 _ _ _ _).of q1) (G (Rt (Pr h)))))
theorem c_bw0 {n : Nat} {p : Proc} : Con 25 [.v (.agg [.str p.Name, encL 2 enc_Param p.Params, encL 13 enc_Stmt p.Body])] [] [] (F_bw0 n p) (fun r => oR (vI r)) (fun _ => []) :=
 Fw Tryz.func25 rfl fun h => G (Bd h fun r1 q1 h => Sq (Gn (c_cb0.of q1) (C h (fun h => G (Rt (tr_ (Pr h)))) fun h => Sk (tn_ (Bd h fun r3 q3 h => Gn
 (c_bv0.of q3) (Sq (G (C h (fun h => G (Rt (tr_ (Pr h)))) fun h => Sk (tn_ (Bd h fun r5 q5 h => Gw (c_ew0.of q5) (Sq (G (C h (fun h => G (Rt (tr_ (Pr h)))) fun
 h => Sk (tn_ (G (Rt (Pr h)))))))))))))))))
theorem c_y0 {n : Nat} {s : Stmt} {b0_ : PPz} : Con 164 [.ptr 0 0, .v (.agg [.int .i64 s.Op, .str s.Name, .int .i64 s.Max, .int .i64 s.A.Op, .int .i64 s.A.N, .str s.A.S, encL 4 enc_Expr s.A.Args, .int .i64 s.B.Op, .int .i64 s.B.N, .str s.B.S, encL 4 enc_Expr s.B.Args, encL 13 enc_Stmt s.Body, encL 13 enc_Stmt s.Else])] [] [[eL 4 enc_Token b0_.tokens, eI b0_.at_]] (F_y0 n s b0_) (fun r => Pn.on r (fun za zb => oR (.v (.agg [.int .i64 za.Op, .str za.Name, .int .i64 za.Max, .int .i64 za.A.Op, .int .i64 za.A.N, .str za.A.S, encL 4 enc_Expr za.A.Args, .int .i64 za.B.Op, .int .i64 za.B.N, .str za.B.S, encL 4 enc_Expr za.B.Args, encL 13 enc_Stmt za.Body, encL 13 enc_Stmt za.Else]))) (fun zx zb => .pan zx)) (fun r => Pn.on r (fun za zb => [[eL 4 enc_Token b0_.tokens, eI zb]]) (fun zx zb => [[eL 4 enc_Token b0_.tokens, eI zb]])) :=
 Fw Tryz.func164 rfl fun h => G (Bp h (fun r2 r3 q1 h => Gw (c_g0.of q1) (G (Rt (Pr h)))) fun x4 r3 q1 h => Sq (RP x4
 [orc (c_g0.of q1) []] (A_ (c_g0.of q1) Z_) (tp_ (Pp h))))
theorem c_r0 {n : Nat} {kind : Int} {b0_ : PPz} : Con 86 [.ptr 0 0, vI kind] [] [[eL 4 enc_Token b0_.tokens, eI b0_.at_]] (F_r0 n kind b0_) (fun r => Pn.on r (fun za zb => oR (.v (.agg [.int .i64 za.Kind, .str za.Text, .int .i64 za.N, .int .i64 za.Line]))) (fun zx zb => .pan zx)) (fun r => Pn.on r (fun za zb => [[eL 4 enc_Token b0_.tokens, eI zb]]) (fun zx zb => [[eL 4 enc_Token b0_.tokens, eI zb]])) :=
 Fw Tryz.func86 rfl fun h => G (K0 ⟨[(0, eP 0 0), (4, eP 1 0)], [(0, [eL 4 enc_Token b0_.tokens, eI b0_.at_]), (1, [eI 0, eS ([] : List UInt8), eI 0, eI 0])], 2⟩
 (F_r0_j1 n b0_) (As h fun g1 h => Hd [(19, [.raw])] (A_ (orF g1) Z_) (C h (fun h => Bp h (fun r3 r4 q2 h => Rn (c_t0.of q2) (E0 h)) fun x5
 r4 q2 h => RP x5 [orn (c_t0.of q2) []] (A_ (c_t0.of q2) Z_) (tp_ (Pp h))) fun h => Sk (E0 h))) fun h => G (As h fun g6 h => Hd
 [(9, [.raw])] (A_ g6 Z_) (Rt (Pr h))))
abbrev I_c0 (f : Int → PPz → Option (Pn (List Stmt) Int)) : Prop := ∀ (depth : Int) (b0_ : PPz), Con 89 [.ptr 0 0, vI depth] [] [[eL 4 enc_Token b0_.tokens, eI b0_.at_]] (f depth b0_) (fun r => Pn.on r (fun za zb => .ret (vL 13 enc_Stmt za) (some 79)) (fun zx zb => .pan zx)) (fun r => Pn.on r (fun za zb => [[eL 4 enc_Token b0_.tokens, eI zb]]) (fun zx zb => [[eL 4 enc_Token b0_.tokens, eI zb]]))
abbrev I_h0 (f : Int → PPz → Option (Pn Stmt Int)) : Prop := ∀ (depth : Int) (b0_ : PPz), Con 134 [.ptr 0 0, vI depth] [] [[eL 4 enc_Token b0_.tokens, eI b0_.at_]] (f depth b0_) (fun r => Pn.on r (fun za zb => oR (.v (.agg [.int .i64 za.Op, .str za.Name, .int .i64 za.Max, .int .i64 za.A.Op, .int .i64 za.A.N, .str za.A.S, encL 4 enc_Expr za.A.Args, .int .i64 za.B.Op, .int .i64 za.B.N, .str za.B.S, encL 4 enc_Expr za.B.Args, encL 13 enc_Stmt za.Body, encL 13 enc_Stmt za.Else]))) (fun zx zb => .pan zx)) (fun r => Pn.on r (fun za zb => [[eL 4 enc_Token b0_.tokens, eI zb]]) (fun zx zb => [[eL 4 enc_Token b0_.tokens, eI zb]]))
abbrev I_m0 (f : Int → PPz → Option (Pn Stmt Int)) : Prop := ∀ (depth : Int) (b0_ : PPz), Con 165 [.ptr 0 0, vI depth] [] [[eL 4 enc_Token b0_.tokens, eI b0_.at_]] (f depth b0_) (fun r => Pn.on r (fun za zb => oR (.v (.agg [.int .i64 za.Op, .str za.Name, .int .i64 za.Max, .int .i64 za.A.Op, .int .i64 za.A.N, .str za.A.S, encL 4 enc_Expr za.A.Args, .int .i64 za.B.Op, .int .i64 za.B.N, .str za.B.S, encL 4 enc_Expr za.B.Args, encL 13 enc_Stmt za.Body, encL 13 enc_Stmt za.Else]))) (fun zx zb => .pan zx)) (fun r => Pn.on r (fun za zb => [[eL 4 enc_Token b0_.tokens, eI zb]]) (fun zx zb => [[eL 4 enc_Token b0_.tokens, eI zb]]))
theorem cB_c0 {n : Nat} {f_c0 : Int → PPz → Option (Pn (List Stmt) Int)} {f_h0 : Int → PPz → Option (Pn Stmt Int)} {f_m0 : Int → PPz → Option (Pn Stmt Int)} (i_c0 : I_c0 f_c0) (i_h0 : I_h0 f_h0) (i_m0 : I_m0 f_m0) : I_c0 (B_c0 n f_c0 f_h0 f_m0) := fun depth b0_ =>
 Fw Tryz.func89 rfl fun h => G (K0 ⟨[(0, eP 0 0), (1, eI depth)], [(0, [eL 4 enc_Token b0_.tokens, eI b0_.at_])], 1⟩
 (F_c0_j1 n f_c0 f_h0 f_m0 depth b0_) (Bd h fun r1 q1 h => Gn (c_bc0.of q1) (C h (fun h =>
 Bp h (fun r3 r4 q2 h => Rn (c_t0.of q2) (E0 h)) fun x5 r4 q2 h => RP x5 [orn (c_t0.of q2) []] (A_ (c_t0.of q2) Z_) (tp_
 (Pp h))) fun h => Sk (E0 h))) fun h => Bp h (fun r7 r8 q6 h => Gw (c_g0.of q6) (G (K2
 (fun v28 v29 => ⟨[(5, ⟨.v (encL 13 enc_Stmt v29), (some 79)⟩)], [(0, [eL 4 enc_Token b0_.tokens, eI v28])], 1⟩)
 (F_c0_j2 n f_c0 f_h0 f_m0 b0_) (Bk (L2
 (fun v18 v19 => ⟨[(0, eP 0 0), (1, eI depth), (5, ⟨.v (encL 13 enc_Stmt v19), (some 79)⟩)], [(0, [eL 4 enc_Token b0_.tokens, eI v18])], 1⟩)
 (F_c0_l3 n f_c0 f_h0 f_m0 depth b0_)
 (F_c0_b3 n f_c0 f_h0 f_m0 depth b0_) h fun k3 v18 v19 h => Bd h fun r20 q20 h => Sq (Gw
 (c_w0.of q20) (C h (fun h => Sk (tn_ (Bk (Bp h (fun r22 r23 q21 h => As h fun g25 h => Ro
 [orc ((i_h0 _ _).of q21) [], .val (encL 13 enc_Stmt ([r22] : List Stmt)), .val (encL 13 enc_Stmt (v19 ++ ([r22] : List Stmt)))]
 (A_ (vimp_app (k := 13) (e := enc_Stmt) v19 ([r22] : List Stmt)) (A_ g25 (A_ (vimp_lit2 (k := 13) (e := enc_Stmt) (xs := [.agg [.int .i64 r22.Op, .str r22.Name, .int .i64 r22.Max, .int .i64 r22.A.Op, .int .i64 r22.A.N, .str r22.A.S, encL 4 enc_Expr r22.A.Args, .int .i64 r22.B.Op, .int .i64 r22.B.N, .str r22.B.S, encL 4 enc_Expr r22.B.Args, encL 13 enc_Stmt r22.Body, encL 13 enc_Stmt r22.Else]]) (l := ([r22] : List Stmt)) (AllV.cons (rev_Stmt r22) (AllV.nil)) 1 rfl) (A_ ((i_h0 _ _).of q21) Z_))))
 (bn_ (E2 h))) fun x24 r23 q21 h => RP x24 [orc ((i_h0 _ _).of q21) []] (A_ ((i_h0 _ _).of q21) Z_) (bp_ (tp_ (bp_ (tp_ (Pp h))))))))) fun
 h => Ex (tx_ (tx_ (bh_ (E2 h)))))))) fun v28 v29 h => G (Rt (Pr h))))) fun x9 r8 q6 h => Sq (RP x9 [orc (c_g0.of q6) []]
 (A_ (c_g0.of q6) Z_) (tp_ (Pp h))))
theorem cB_h0 {n : Nat} {f_c0 : Int → PPz → Option (Pn (List Stmt) Int)} {f_h0 : Int → PPz → Option (Pn Stmt Int)} {f_m0 : Int → PPz → Option (Pn Stmt Int)} (i_c0 : I_c0 f_c0) (i_h0 : I_h0 f_h0) (i_m0 : I_m0 f_m0) : I_h0 (B_h0 n f_c0 f_h0 f_m0) := fun depth b0_ =>
 Fw Tryz.func134 rfl fun h => G (Sq (Bk (Bd h fun r1 q1 h => Gw (c_w0.of q1) (C h (fun h => Bp h (fun r4 r5 q3 h => Gw (c_r0.of q3) (Bp h
 (fun r8 r9 q7 h => Gw (c_g0.of q7) (Bp h (fun r12 r13 q11 h => Bp h (fun r16 r17 q15 h => Ho
 [orc ((c_a0 _ _ _).of q11) [], orc (c_y0.of q15) []] (A_ (c_y0.of q15) (A_ ((c_a0 _ _ _).of q11) Z_)) (Rt
 (br_ (tr_ (Pr h))))) fun x18 r17 q15 h => Sq (RP x18 [orc ((c_a0 _ _ _).of q11) [], orc (c_y0.of q15) []]
 (A_ (c_y0.of q15) (A_ ((c_a0 _ _ _).of q11) Z_)) (tp_ (bp_ (tp_ (Pp h)))))) fun x14 r13 q11 h => Sq (RP x14
 [orc ((c_a0 _ _ _).of q11) []] (A_ ((c_a0 _ _ _).of q11) Z_) (tp_ (bp_ (tp_ (Pp h))))))) fun x10 r9 q7 h => Sq (RP x10
 [orc (c_g0.of q7) []] (A_ (c_g0.of q7) Z_) (tp_ (bp_ (tp_ (Pp h))))))) fun x6 r5 q3 h => Sq (RP x6
 [orc (c_r0.of q3) []] (A_ (c_r0.of q3) Z_) (tp_ (bp_ (tp_ (Pp h)))))) fun h => Bd h fun r19 q19 h => Gw (c_w0.of q19) (C
 h (fun h => Bp h (fun r22 r23 q21 h => Gw ((c_a0 _ _ _).of q21) (Bp h (fun r26 r27 q25 h => Gw (c_g0.of q25) (Bp h (fun r30 r31 q29 h =>
 Bp h (fun r34 r35 q33 h => Hd [(3, [orc ((c_a0 _ _ _).of q29) []]), (5, [orc (c_y0.of q33) []])]
 (A_ (c_y0.of q33) (A_ ((c_a0 _ _ _).of q29) Z_)) (Rt (br_ (tr_ (Pr h))))) fun x36 r35 q33 h => Sq (RDP 5 x36
 [(3, [orc ((c_a0 _ _ _).of q29) []]), (5, [orc (c_y0.of q33) []])]
 (A_ (c_y0.of q33) (A_ ((c_a0 _ _ _).of q29) Z_)) fun _ => tp_ (bp_ (tp_ (Pp h))))) fun x32 r31 q29 h => Sq (RDP 3 x32
 [(3, [orc ((c_a0 _ _ _).of q29) []])] (A_ ((c_a0 _ _ _).of q29) Z_) fun _ => tp_ (bp_ (tp_ (Pp h)))))) fun x28 r27 q25 h => Sq (RP x28
 [orc (c_g0.of q25) []] (A_ (c_g0.of q25) Z_) (tp_ (bp_ (tp_ (Pp h))))))) fun x24 r23 q21 h => Sq (RP x24
 [orc ((c_a0 _ _ _).of q21) []] (A_ ((c_a0 _ _ _).of q21) Z_) (tp_ (bp_ (tp_ (Pp h)))))) fun h => Bd h fun r37 q37 h => Gw
 (c_w0.of q37) (C h (fun h => Bp h (fun r40 r41 q39 h => Bp h (fun r44 r45 q43 h => Ho
 [orc ((c_a0 _ _ _).of q39) [], orc (c_y0.of q43) []] (A_ (c_y0.of q43) (A_ ((c_a0 _ _ _).of q39) Z_)) (Rt
 (br_ (tr_ (Pr h))))) fun x46 r45 q43 h => Sq (RP x46 [orc ((c_a0 _ _ _).of q39) [], orc (c_y0.of q43) []]
 (A_ (c_y0.of q43) (A_ ((c_a0 _ _ _).of q39) Z_)) (tp_ (bp_ (tp_ (Pp h)))))) fun x42 r41 q39 h => Sq (RP x42
 [orc ((c_a0 _ _ _).of q39) []] (A_ ((c_a0 _ _ _).of q39) Z_) (tp_ (bp_ (tp_ (Pp h)))))) fun h => Bd h fun r47 q47 h => Gw
 (c_w0.of q47) (C h (fun h => Bp h (fun r50 r51 q49 h => Bp h (fun r54 r55 q53 h => Ho
 [orc ((c_a0 _ _ _).of q49) [], orc (c_y0.of q53) []] (A_ (c_y0.of q53) (A_ ((c_a0 _ _ _).of q49) Z_)) (Rt
 (br_ (tr_ (Pr h))))) fun x56 r55 q53 h => Sq (RP x56 [orc ((c_a0 _ _ _).of q49) [], orc (c_y0.of q53) []]
 (A_ (c_y0.of q53) (A_ ((c_a0 _ _ _).of q49) Z_)) (tp_ (bp_ (tp_ (Pp h)))))) fun x52 r51 q49 h => Sq (RP x52
 [orc ((c_a0 _ _ _).of q49) []] (A_ ((c_a0 _ _ _).of q49) Z_) (tp_ (bp_ (tp_ (Pp h)))))) fun h => Bd h fun r57 q57 h => Gw
 (c_w0.of q57) (C h (fun h => Bp h (fun r60 r61 q59 h => Bp h (fun r64 r65 q63 h => Ho
 [orc (c_r0.of q59) [], orc (c_y0.of q63) []] (A_ (c_y0.of q63) (A_ (c_r0.of q59) Z_)) (Rt (br_ (tr_ (Pr
 h))))) fun x66 r65 q63 h => Sq (RP x66 [orc (c_r0.of q59) [], orc (c_y0.of q63) []]
 (A_ (c_y0.of q63) (A_ (c_r0.of q59) Z_)) (tp_ (bp_ (tp_ (Pp h)))))) fun x62 r61 q59 h => Sq (RP x62 [orc (c_r0.of q59) []]
 (A_ (c_r0.of q59) Z_) (tp_ (bp_ (tp_ (Pp h)))))) fun h => Bd h fun r67 q67 h => Gw (c_w0.of q67) (C h (fun h => Bp h (fun r70 r71 q69 h
 => Bp h (fun r74 r75 q73 h => Ho [orc ((c_a0 _ _ _).of q69) [], orc ((i_c0 _ _).of q73) [], .own]
 (A_ ((i_c0 _ _).of q73) (A_ ((c_a0 _ _ _).of q69) Z_)) (K2
 (fun v82 v83 => ⟨[(4, eP 1 0), (7, eP 2 0)], [(0, [eL 4 enc_Token b0_.tokens, eI v82]), (1, [eI 0, eS ([] : List UInt8), eI 0, eI 0, eI 0, eS ([] : List UInt8), eL 4 enc_Expr ([] : List Expr), eI 0, eI 0, eS ([] : List UInt8), eL 4 enc_Expr ([] : List Expr), ⟨.v (encL 13 enc_Stmt ([] : List Stmt)), (some 79)⟩, ⟨.v (encL 13 enc_Stmt ([] : List Stmt)), (some 79)⟩]), (2, [eI 5, eS ([] : List UInt8), eI 0, eI r70.Op, eI r70.N, eS r70.S, eL 4 enc_Expr r70.Args, eI 0, eI 0, eS ([] : List UInt8), eL 4 enc_Expr ([] : List Expr), eL 13 enc_Stmt r74, ⟨.v (encL 13 enc_Stmt v83), (some 79)⟩])], 3⟩)
 (F_h0_j1 n f_c0 f_h0 f_m0 b0_ r70 r74) (Bd h fun r77 q77 h => Gw (c_w0.of q77) (C h
 (fun h => Bp h (fun r79 r80 q78 h => Rw ((i_c0 _ _).of q78) (E2 h)) fun x81 r80 q78 h => RP x81 [orc ((i_c0 _ _).of q78) []]
 (A_ ((i_c0 _ _).of q78) Z_) (tp_ (bp_ (tp_ (Pp h))))) fun h => Sk (E2 h))) fun v82 v83 h => G (Rt (br_ (tr_ (Pr h)))))) fun x76 r75 q73 h => Sq (RP x76
 [orc ((c_a0 _ _ _).of q69) [], orc ((i_c0 _ _).of q73) []]
 (A_ ((i_c0 _ _).of q73) (A_ ((c_a0 _ _ _).of q69) Z_)) (tp_ (bp_ (tp_ (Pp h)))))) fun x72 r71 q69 h => Sq (RP x72
 [orc ((c_a0 _ _ _).of q69) []] (A_ ((c_a0 _ _ _).of q69) Z_) (tp_ (bp_ (tp_ (Pp h)))))) fun h => Bd h fun r85 q85 h => Gw
 (c_w0.of q85) (C h (fun h => Bp h (fun r88 r89 q87 h => Gw ((i_m0 _ _).of q87) (Rt (br_ (tr_ (Pr h))))) fun x90 r89 q87 h => Sq (RP x90
 [orc ((i_m0 _ _).of q87) []] (A_ ((i_m0 _ _).of q87) Z_) (tp_ (bp_ (tp_ (Pp h)))))) fun h => Sk (bn_ (tn_ (Bp h (fun r92 r93 q91 h => Gw
 (c_r0.of q91) (Bp h (fun r96 r97 q95 h => Gw (c_g0.of q95) (Bp h (fun r100 r101 q99 h => Bp h (fun r104 r105 q103 h => Ho
 [orc ((c_a0 _ _ _).of q99) [], orc (c_y0.of q103) []] (A_ (c_y0.of q103) (A_ ((c_a0 _ _ _).of q99) Z_)) (Rt
 (Pr h))) fun x106 r105 q103 h => Sq (RP x106 [orc ((c_a0 _ _ _).of q99) [], orc (c_y0.of q103) []]
 (A_ (c_y0.of q103) (A_ ((c_a0 _ _ _).of q99) Z_)) (tp_ (Pp h)))) fun x102 r101 q99 h => Sq (RP x102
 [orc ((c_a0 _ _ _).of q99) []] (A_ ((c_a0 _ _ _).of q99) Z_) (tp_ (Pp h))))) fun x98 r97 q95 h => Sq (RP x98
 [orc (c_g0.of q95) []] (A_ (c_g0.of q95) Z_) (tp_ (Pp h))))) fun x94 r93 q91 h => Sq (RP x94 [orc (c_r0.of q91) []]
 (A_ (c_r0.of q91) Z_) (tp_ (Pp h))))))))))))))))
theorem cB_m0 {n : Nat} {f_c0 : Int → PPz → Option (Pn (List Stmt) Int)} {f_h0 : Int → PPz → Option (Pn Stmt Int)} {f_m0 : Int → PPz → Option (Pn Stmt Int)} (i_c0 : I_c0 f_c0) (i_h0 : I_h0 f_h0) (i_m0 : I_m0 f_m0) : I_m0 (B_m0 n f_c0 f_h0 f_m0) := fun depth b0_ =>
 Fw Tryz.func165 rfl fun h => G (Bp h (fun r2 r3 q1 h => Ho [orc (c_r0.of q1) [], .own] (A_ (c_r0.of q1) Z_) (Bp h (fun r6 r7 q5 h => Gw
 (c_g0.of q5) (Bp h (fun r10 r11 q9 h => Gw ((c_a0 _ _ _).of q9) (Bp h (fun r14 r15 q13 h => Gw (c_g0.of q13) (Bp h
 (fun r18 r19 q17 h => Gw ((c_a0 _ _ _).of q17) (Bp h (fun r22 r23 q21 h => Gw (c_g0.of q21) (Bp h (fun r26 r27 q25 h => Gw
 (c_r0.of q25) (Bp h (fun r30 r31 q29 h => Gw ((i_c0 _ _).of q29) (G (Rt (Pr h)))) fun x32 r31 q29 h => Sq (RP x32
 [orc ((i_c0 _ _).of q29) []] (A_ ((i_c0 _ _).of q29) Z_) (tp_ (Pp h))))) fun x28 r27 q25 h => Sq (RP x28
 [orc (c_r0.of q25) []] (A_ (c_r0.of q25) Z_) (tp_ (Pp h))))) fun x24 r23 q21 h => Sq (RP x24 [orc (c_g0.of q21) []]
 (A_ (c_g0.of q21) Z_) (tp_ (Pp h))))) fun x20 r19 q17 h => Sq (RP x20 [orc ((c_a0 _ _ _).of q17) []]
 (A_ ((c_a0 _ _ _).of q17) Z_) (tp_ (Pp h))))) fun x16 r15 q13 h => Sq (RP x16 [orc (c_g0.of q13) []]
 (A_ (c_g0.of q13) Z_) (tp_ (Pp h))))) fun x12 r11 q9 h => Sq (RP x12 [orc ((c_a0 _ _ _).of q9) []]
 (A_ ((c_a0 _ _ _).of q9) Z_) (tp_ (Pp h))))) fun x8 r7 q5 h => Sq (RP x8 [orc (c_g0.of q5) []] (A_ (c_g0.of q5) Z_)
 (tp_ (Pp h))))) fun x4 r3 q1 h => Sq (RP x4 [orc (c_r0.of q1) []] (A_ (c_r0.of q1) Z_) (tp_ (Pp h))))
theorem cS_c0 (n : Nat) : I_c0 (F_c0 n) ∧ I_h0 (F_h0 n) ∧ I_m0 (F_m0 n) := by
 induction n with
 | zero => exact ⟨fun depth b0_ => ⟨fun h => no_ h⟩, fun depth b0_ => ⟨fun h => no_ h⟩, fun depth b0_ => ⟨fun h => no_ h⟩⟩
 | succ m ih => obtain ⟨i0, i1, i2⟩ := ih; exact ⟨cB_c0 (n := m) i0 i1 i2, cB_h0 (n := m) i0 i1 i2, cB_m0 (n := m) i0 i1 i2⟩
theorem c_c0 {n : Nat} : I_c0 (F_c0 n) := (cS_c0 n).1
theorem c_af0 {n : Nat} {b0_ : PPz} : Con 88 [.ptr 0 0] [] [[eL 4 enc_Token b0_.tokens, eI b0_.at_]] (F_af0 n b0_) (fun r => Pn.on r (fun za zb => oR (.v (.agg [.str za.Name, .int .i64 za.Type_]))) (fun zx zb => .pan zx)) (fun r => Pn.on r (fun za zb => [[eL 4 enc_Token b0_.tokens, eI zb]]) (fun zx zb => [[eL 4 enc_Token b0_.tokens, eI zb]])) :=
 Fw Tryz.func88 rfl fun h => G (Bp h (fun r2 r3 q1 h => Gw (c_r0.of q1) (Bp h (fun r6 r7 q5 h => Gw (c_g0.of q5) (K2
 (fun v16 v17 => ⟨[(2, eP 1 0), (3, eP 2 0)], [(0, [eL 4 enc_Token b0_.tokens, eI v16]), (1, [eS ([] : List UInt8), eI 0]), (2, [eS r2.Text, eI v17])], 3⟩)
 (F_af0_j1 n b0_ r2) (Bk (Bd h fun r9 q9 h => Gw (c_w0.of q9) (C h (fun h => Rk (bn_ (E2 h))) fun h => Bd h fun r10 q10 h => Gw
 (c_w0.of q10) (C h (fun h => Rk (bn_ (E2 h))) fun h => Bd h fun r11 q11 h => Gw (c_w0.of q11) (C h (fun h => Rk (bn_ (E2 h))) fun h =>
 Bp h (fun r13 r14 q12 h => Rn (c_t0.of q12) (bn_ (E2 h))) fun x15 r14 q12 h => RP x15 [orn (c_t0.of q12) []]
 (A_ (c_t0.of q12) Z_) (bp_ (tp_ (Pp h)))))))) fun v16 v17 h => G (Rt (Pr h)))) fun x8 r7 q5 h => Sq (RP x8 [orc (c_g0.of q5) []]
 (A_ (c_g0.of q5) Z_) (tp_ (Pp h))))) fun x4 r3 q1 h => Sq (RP x4 [orc (c_r0.of q1) []] (A_ (c_r0.of q1) Z_) (tp_ (Pp
 h))))
theorem c_k0 {n : Nat} {b0_ : PPz} : Con 40 [.ptr 0 0] [] [[eL 4 enc_Token b0_.tokens, eI b0_.at_]] (F_k0 n b0_) (fun r => Pn.on r (fun za zb => oR (.v (.agg [.str za.Name, encL 2 enc_Param za.Params, encL 13 enc_Stmt za.Body]))) (fun zx zb => .pan zx)) (fun r => Pn.on r (fun za zb => [[eL 4 enc_Token b0_.tokens, eI zb]]) (fun zx zb => [[eL 4 enc_Token b0_.tokens, eI zb]])) :=
 Fw Tryz.func40 rfl fun h => G (Bp h (fun r2 r3 q1 h => Gw (c_g0.of q1) (Bp h (fun r6 r7 q5 h => Ho [orc (c_r0.of q5) [], .own]
 (A_ (c_r0.of q5) Z_) (Bp h (fun r10 r11 q9 h => Gw (c_g0.of q9) (K2
 (fun v43 v44 => ⟨[(0, eP 0 0), (2, eP 1 0), (3, eP 2 0)], [(0, [eL 4 enc_Token b0_.tokens, eI v43]), (1, [eS ([] : List UInt8), ⟨.v (encL 2 enc_Param ([] : List Param)), (some 68)⟩, ⟨.v (encL 13 enc_Stmt ([] : List Stmt)), (some 79)⟩]), (2, [eS r6.Text, ⟨.v (encL 2 enc_Param v44), (some 68)⟩, ⟨.v (encL 13 enc_Stmt ([] : List Stmt)), (some 79)⟩])], 3⟩)
 (F_k0_j1 n b0_ r6) (Bd h fun r13 q13 h => Gw (c_w0.of q13) (C h (fun h => Bp h (fun r15 r16 q14 h => As h fun g18 h => Hd
 [(1, [.own]), (3, [orc (c_af0.of q14) []]), (4, [.val (encL 2 enc_Param ([r15] : List Param))]), (5, [.val (encL 2 enc_Param (([] : List Param) ++ ([r15] : List Param)))])]
 (A_ (vimp_app (k := 2) (e := enc_Param) ([] : List Param) ([r15] : List Param)) (A_ g18 (A_ (vimp_litm (k := 2) (e := enc_Param) ([r15] : List Param)) (A_ (c_af0.of q14) Z_))))
 (K2
 (fun v37 v38 => ⟨[(0, eP 0 0), (2, eP 1 0), (3, eP 2 0)], [(0, [eL 4 enc_Token b0_.tokens, eI v37]), (1, [eS ([] : List UInt8), ⟨.v (encL 2 enc_Param ([] : List Param)), (some 68)⟩, ⟨.v (encL 13 enc_Stmt ([] : List Stmt)), (some 79)⟩]), (2, [eS r6.Text, ⟨.v (encL 2 enc_Param v38), (some 68)⟩, ⟨.v (encL 13 enc_Stmt ([] : List Stmt)), (some 79)⟩])], 3⟩)
 (F_k0_j2 n b0_ r6) (Bk (L2
 (fun v27 v28 => ⟨[(0, eP 0 0), (2, eP 1 0), (3, eP 2 0)], [(0, [eL 4 enc_Token b0_.tokens, eI v27]), (1, [eS ([] : List UInt8), ⟨.v (encL 2 enc_Param ([] : List Param)), (some 68)⟩, ⟨.v (encL 13 enc_Stmt ([] : List Stmt)), (some 79)⟩]), (2, [eS r6.Text, ⟨.v (encL 2 enc_Param v28), (some 68)⟩, ⟨.v (encL 13 enc_Stmt ([] : List Stmt)), (some 79)⟩])], 3⟩)
 (F_k0_l3 n b0_ r6) (F_k0_b3 n b0_ r6) h fun k3 v27 v28 h => Bd h fun r29 q29 h => Sq (Gw (c_w0.of q29) (C h (fun h => Sk
 (tn_ (Bk (Bp h (fun r31 r32 q30 h => As h fun g34 h => Rd
 [(1, [.own]), (3, [orc (c_af0.of q30) []]), (4, [.val (encL 2 enc_Param ([r31] : List Param))]), (5, [.val (encL 2 enc_Param (v28 ++ ([r31] : List Param)))])]
 (A_ (vimp_app (k := 2) (e := enc_Param) v28 ([r31] : List Param)) (A_ g34 (A_ (vimp_litm (k := 2) (e := enc_Param) ([r31] : List Param)) (A_ (c_af0.of q30) Z_))))
 (bn_ (E2 h))) fun x33 r32 q30 h => RDP 3 x33 [(3, [orc (c_af0.of q30) []])] (A_ (c_af0.of q30) Z_) fun _ => bp_ (tp_ (bp_ (tp_ (tp_ (Pp
 h))))))))) fun h => Ex (tx_ (tx_ (bh_ (E2 h)))))))) fun v37 v38 h => Bp h (fun r40 r41 q39 h => Rw (c_g0.of q39) (E2 h)) fun x42 r41 q39 h => RP x42
 [orc (c_g0.of q39) []] (A_ (c_g0.of q39) Z_) (tp_ (Pp h)))) fun x17 r16 q14 h => Sq (RDP 3 x17
 [(3, [orc (c_af0.of q14) []])] (A_ (c_af0.of q14) Z_) fun _ => tp_ (tp_ (Pp h)))) fun h => Sk (E2 h))) fun v43 v44 h => Bp h (fun r46 r47
 q45 h => Gw ((c_c0 _ _).of q45) (G (Rt (Pr h)))) fun x48 r47 q45 h => Sq (RP x48 [orc ((c_c0 _ _).of q45) []]
 (A_ ((c_c0 _ _).of q45) Z_) (tp_ (Pp h))))) fun x12 r11 q9 h => Sq (RP x12 [orc (c_g0.of q9) []] (A_ (c_g0.of q9) Z_)
 (tp_ (Pp h))))) fun x8 r7 q5 h => Sq (RP x8 [orc (c_r0.of q5) []] (A_ (c_r0.of q5) Z_) (tp_ (Pp h))))) fun x4 r3 q1 h => Sq (RP x4
 [orc (c_g0.of q1) []] (A_ (c_g0.of q1) Z_) (tp_ (Pp h))))
theorem c_dq0 {n : Nat} {b0_ : PPz} {b1_ : Proc} : Con 39 [.ptr 0 0, .ptr 1 0] [] [[eL 4 enc_Token b0_.tokens, eI b0_.at_], [eS b1_.Name, ⟨.v (encL 2 enc_Param b1_.Params), (some 68)⟩, ⟨.v (encL 13 enc_Stmt b1_.Body), (some 79)⟩]] (F_dq0 n b0_ b1_) (fun r => Pn.on r (fun za zb => oR (.tup [])) (fun zx zb => .pan zx)) (fun r => Pn.on r (fun za zb => [[eL 4 enc_Token b0_.tokens, eI zb.1], [eS zb.2.1, eL 2 enc_Param zb.2.2.1, eL 13 enc_Stmt zb.2.2.2]]) (fun zx zb => [[eL 4 enc_Token b0_.tokens, eI zb.1], [eS zb.2.1, eL 2 enc_Param zb.2.2.1, eL 13 enc_Stmt zb.2.2.2]])) :=
 Fw Tryz.func39 rfl fun h => Bp h (fun r2 r3 q1 h => Rw (c_k0.of q1) (Pm h)) fun x4 r3 q1 h => RP x4 [orc (c_k0.of q1) []]
 (A_ (c_k0.of q1) Z_) (Pp h)
theorem d0_bt0 (a b : Int) : DCalls Tryz.prog 72 [.ptr 0 0, .ptr 1 0] [[⟨.v (.int .i64 a), none⟩], [⟨.v (.int .i64 b), none⟩]] none (fun H' => H' = [[⟨.v (.int .i64 a), none⟩], [⟨.v (.int .i64 b), none⟩]]) := by
  refine DCalls.of_recover tt_ok Tryz.func72 rfl rfl rfl rfl rfl rfl rfl rfl rfl rfl (by kernel_rfl) (by kernel_rfl) (by kernel_rfl) ?_
  refine AWp.seq (AWp.rg tt_ok [] (by kernel_rfl) all_nil ?_)
  refine AE.then_normal ?_
  refine AWp.cndF (by kernel_rfl) ?_
  exact AWp.skip (post_normal (by kernel_rfl))
theorem d1_bt0 (a b l c : Int) : DCalls Tryz.prog 72 [.ptr 0 0, .ptr 1 0] [[⟨.v (.int .i64 a), none⟩], [⟨.v (.int .i64 b), none⟩]] (some (.iface 114 (.agg [.int .i64 l, .int .i64 c]))) (fun H' => H' = [[⟨.v (.int .i64 l), none⟩], [⟨.v (.int .i64 c), none⟩]]) := by
  refine DCalls.of_recover tt_ok Tryz.func72 rfl rfl rfl rfl rfl rfl rfl rfl rfl rfl (by kernel_rfl) (by kernel_rfl) (by kernel_rfl) ?_
  refine AWp.seq (AWp.rg tt_ok [] (by kernel_rfl) all_nil ?_)
  refine AE.then_normal ?_
  refine AWp.cndT (by kernel_rfl) ?_
  refine AWp.seq (AWp.rg tt_ok [] (by kernel_rfl) all_nil ?_)
  refine AE.then_normal ?_
  refine AWp.seq (AWp.seq (AWp.rg tt_ok [] (by kernel_rfl) all_nil ?_))
  refine AE.then_normal ?_
  refine AWp.cndF (by kernel_rfl) ?_
  refine AWp.skip (AE.then_normal ?_)
  refine AWp.rgD tt_ok mo_ok [] (by kernel_rfl) all_nil ?_
  exact post_normal (by kernel_rfl)
theorem c_bt0 {n : Nat} {src : List UInt8} {b0_ : Proc} {r : Int × Int × (List UInt8) × (List Param) × (List Stmt)} (h : F_bt0 n src b0_ = some r) : saysOf Tryz.prog 31 [vS src, .fn 39 [.ptr 0 0]] [] [[eS b0_.Name, ⟨.v (encL 2 enc_Param b0_.Params), (some 68)⟩, ⟨.v (encL 13 enc_Stmt b0_.Body), (some 79)⟩]] (oR (.tup [vI r.1, vI r.2.1])) [[eS r.2.2.1, eL 2 enc_Param r.2.2.2.1, eL 13 enc_Stmt r.2.2.2.2]] := by
  refine ACalls.of_dwp (tt := tt) Tryz.func31 rfl rfl rfl ?_
  unfold F_bt0 at h
  refine DWp.seq tt_ok ?_
  refine AWp.rg tt_ok [] (by kernel_rfl) all_nil ?_
  refine DPost_normal (DWp.seq tt_ok ?_)
  obtain ⟨r1, hr1, h⟩ := bind_some h
  have p1 := c_p0.of hr1
  refine AWp.rg tt_ok [orn p1 []] (by kernel_rfl) (all_cons p1 all_nil) ?_
  refine DPost_normal (DWp.seq tt_ok ?_)
  refine AWp.seq (AWp.rg tt_ok [] (by kernel_rfl) all_nil ?_)
  refine AE.then_normal ?_
  refine AWp.cnd h (by kernel_rfl) ?_ ?_ <;> clear h <;> intro h
  · refine AWp.seq ?_
    refine AWp.rgD tt_ok mo_ok [] (by kernel_rfl) all_nil ?_
    refine AE.then_normal ?_
    refine AWp.ret ?_
    obtain rfl := Option.some.inj h
    exact DPost_ret (by kernel_rfl)
  · refine AWp.skip ?_
    refine DPost_normal ?_
    refine DWp.defer tt_ok rfl rfl rfl rfl rfl rfl rfl rfl rfl (by kernel_rfl) (ds := [.ptr 1 0, .ptr 2 0]) (by kernel_rfl) (by kernel_rfl) Tryz.func72 rfl rfl (by kernel_rfl) ?_
    refine AWp.seq (AWp.rg tt_ok [] (by kernel_rfl) all_nil ?_)
    refine AE.then_normal ?_
    refine AWp.seq ?_
    obtain ⟨r2, hr2, h⟩ := bind_some h
    have p2 := c_dq0.of hr2
    cases r2 with
    | ret za zm =>
      refine AWp.rg tt_ok [orc p2 []] (by kernel_rfl) (all_cons p2 all_nil) ?_
      refine AE.then_normal ?_
      refine AWp.seq (AWp.seq (AWp.rgD tt_ok mo_ok [] (by kernel_rfl) all_nil ?_))
      refine AE.then_normal ?_
      refine AWp.cnd h (by kernel_rfl) ?_ ?_ <;> clear h <;> intro h
      · obtain ⟨r3, hr3, h⟩ := bind_some h
        have p3 := c_t0.of hr3
        cases r3 with
        | ret zb zc =>
          have h2 : (none : Option _) = some r := h
          cases h2
        | pan zx zc =>
          obtain ⟨lc, hlc, h⟩ := bind_some h
          obtain rfl := Option.some.inj h
          obtain rfl := asFail_some hlc
          refine AWp.rgP tt_ok [orn p3 []] (x := .iface 114 (.agg [.int .i64 lc.1, .int .i64 lc.2])) (by kernel_rfl) (all_cons p3 all_nil) ?_
          exact AE.then_pan (LPost_pan (Fin1.of [1, 2] (d1_bt0 r1.2.1 r1.2.2 lc.1 lc.2) (by kernel_rfl)))
      · refine AWp.skip ?_
        obtain rfl := Option.some.inj h
        refine AE.then_normal ?_
        refine AWp.seq (AWp.rg tt_ok [] (by kernel_rfl) all_nil ?_)
        refine AE.then_normal ?_
        exact AWp.ret (LPost_ret (Fin1.of [1, 2] (d0_bt0 0 0) (by kernel_rfl)))
    | pan zx zm =>
      obtain ⟨lc, hlc, h⟩ := bind_some h
      obtain rfl := Option.some.inj h
      obtain rfl := asFail_some hlc
      refine AWp.rgP tt_ok [orc p2 []] (x := .iface 114 (.agg [.int .i64 lc.1, .int .i64 lc.2])) (by kernel_rfl) (all_cons p2 all_nil) ?_
      exact AE.then_pan (LPost_pan (Fin1.of [1, 2] (d1_bt0 r1.2.1 r1.2.2 lc.1 lc.2) (by kernel_rfl)))
theorem c_am0 {n : Nat} {src : List UInt8} : Con 15 [vS src] [] [] (F_am0 n src) (fun r => oR (.tup [.v (.agg [.str r.1.Name, encL 2 enc_Param r.1.Params, encL 13 enc_Stmt r.1.Body]), vI r.2.1, vI r.2.2])) (fun _ => []) :=
 Fw Tryz.func15 rfl fun h => G (G (Bd h fun r1 q1 h => Gw (c_bt0 q1) (K1
 (fun v3 => ⟨[(2, eP 0 0), (5, eP 1 0), (6, eI r1.1), (7, eI v3)], [(0, [eS ([] : List UInt8), ⟨.v (encL 2 enc_Param ([] : List Param)), (some 68)⟩, ⟨.v (encL 13 enc_Stmt ([] : List Stmt)), (some 79)⟩]), (1, [eS r1.2.2.1, eL 2 enc_Param r1.2.2.2.1, eL 13 enc_Stmt r1.2.2.2.2])], 2⟩)
 (F_am0_j1 n r1) (G (C h (fun h => Bd h fun r2 q2 h => Rn (c_bw0.of q2) (E1 h)) fun h => Sk (E1 h))) fun v3 h => Sq (G (C h (fun h => Ho [.own] Z_ (Rt
 (tr_ (Pr h)))) fun h => Sk (tn_ (G (Rt (Pr h)))))))))
theorem c_bb0 {n : Nat} {l : List Proc} : Con 45 [vL 3 enc_Proc l] [] [] (F_bb0 n l) (fun r => oR (vI r)) (fun _ => []) :=
 Fw Tryz.func45 rfl fun h => G (Sq (G (C h (fun h => G (Rt (tr_ (Pr h)))) fun h => Sk (tn_ (K0 ⟨[], [], 0⟩ (F_bb0_j1 n) (G (Bk (L1
 (fun v11 => ⟨[(0, eL 3 enc_Proc l), (11, eL 3 enc_Proc l), (12, eI ((l.length : Nat) : Int)), (13, eI v11)], [], 0⟩) (F_bb0_l2 n l) (F_bb0_b2 n l) h fun
 k2 v11 h => G (Sq (C h (fun h => Sk (tn_ (K0 ⟨[(0, eL 3 enc_Proc l), (11, eL 3 enc_Proc l), (12, eI ((l.length : Nat) : Int)), (13, eI v11)], [], 0⟩
 (F_bb0_j3 n k2 l v11) (Bk (As h fun g12 h => Ho [.raw] (A_ g12 Z_) (Bd h fun r13 q13 h => Sq (Gn (c_bw0.of q13) (G (C h (fun h => G (Rt (tr_ (br_ (tr_
 (tr_ (br_ (tr_ (Pr h))))))))) fun h => Sk (tn_ (As h fun g14 h => Ho [.val (encL 3 enc_Proc (l.take (v11).toNat))]
 (A_ (vimp_take (k := 3) (e := enc_Proc) l v11 (upB_spec g14)) (A_ g14 Z_)) (Bk (L1
 (fun v17 => ⟨[(0, eL 3 enc_Proc l), (4, eP 0 0), (11, eL 3 enc_Proc l), (12, eI ((l.length : Nat) : Int)), (13, eI v11), (25, eL 3 enc_Proc (l.take (v11).toNat)), (26, eI (((l.take (v11).toNat).length : Nat) : Int)), (27, eI v17)], [(0, [eS ((l.getD (v11).toNat default).Name), eL 2 enc_Param ((l.getD (v11).toNat default).Params), eL 13 enc_Stmt ((l.getD (v11).toNat default).Body)])], 1⟩)
 (F_bb0_l4 n k2 l v11) (F_bb0_b4 n k2 l v11) h fun k4 v17 h => G (Sq (C h (fun h => Sk (tn_ (Sq (Bk (As h fun g18 h => Ho [.raw] (A_ g18 Z_) (G (C h (fun
 h => G (Rt (br_ (tr_ (tr_ (br_ (br_ (tr_ (tr_ (br_ (tr_ (Pr h)))))))))))) fun h => Sk (bn_ (tn_ (Rk (E1 h))))))))))) fun h => Ex (tx_ (tx_ (bh_ (bn_ (E0
 h))))))))))))))))) fun h => Rk (E1 h)))) fun h => Ex (tx_ (tx_ (bh_ (E0 h))))))))) fun h => G (Rt (Pr h)))))))
theorem c_cd0 {n : Nat} {b0_ : PPz} {b1_ : List Proc} : Con 44 [.ptr 0 0, .ptr 1 0] [] [[eL 4 enc_Token b0_.tokens, eI b0_.at_], [⟨.v (encL 3 enc_Proc b1_), (some 34)⟩]] (F_cd0 n b0_ b1_) (fun r => Pn.on r (fun za zb => oR (.tup [])) (fun zx zb => .pan zx)) (fun r => Pn.on r (fun za zb => [[eL 4 enc_Token b0_.tokens, eI zb.1], [⟨.v (encL 3 enc_Proc zb.2), (some 34)⟩]]) (fun zx zb => [[eL 4 enc_Token b0_.tokens, eI zb.1], [eL 3 enc_Proc zb.2]])) :=
 Fw Tryz.func44 rfl fun h => Bk (L2 (fun v8 v9 => ⟨[(0, eP 0 0), (1, eP 1 0)], [(0, [eL 4 enc_Token b0_.tokens, eI v8]), (1, [⟨.v (encL 3 enc_Proc v9), (some 34)⟩])], 2⟩)
 (F_cd0_l1 n b0_) (F_cd0_b1 n b0_) h fun k1 v8 v9 h => Sq (Hd [] Z_ (C h (fun h => Sk (tn_ (Bk (Bp h (fun r11 r12 q10 h => As h fun g14 h => Rd
 [(0, [.own]), (2, [orc (c_k0.of q10) []]), (3, [.val (encL 3 enc_Proc ([r11] : List Proc))]), (4, [.val (encL 3 enc_Proc (v9 ++ ([r11] : List Proc)))])]
 (A_ (vimp_app (k := 3) (e := enc_Proc) v9 ([r11] : List Proc)) (A_ g14 (A_ (vimp_litm (k := 3) (e := enc_Proc) ([r11] : List Proc)) (A_ (c_k0.of q10) Z_))))
 (bn_ (E2 h))) fun x13 r12 q10 h => RDP 2 x13 [(2, [orc (c_k0.of q10) []])] (A_ (c_k0.of q10) Z_) fun _ => bp_ (tp_ (bp_ (Pp h))))))) fun h
 => Ex (tx_ (tx_ (bh_ (Pm h)))))))
theorem d0_cs0 (a b : Int) : DCalls Tryz.prog 72 [.ptr 0 0, .ptr 1 0] [[⟨.v (.int .i64 a), none⟩], [⟨.v (.int .i64 b), none⟩]] none (fun H' => H' = [[⟨.v (.int .i64 a), none⟩], [⟨.v (.int .i64 b), none⟩]]) := by
  refine DCalls.of_recover tt_ok Tryz.func72 rfl rfl rfl rfl rfl rfl rfl rfl rfl rfl (by kernel_rfl) (by kernel_rfl) (by kernel_rfl) ?_
  refine AWp.seq (AWp.rg tt_ok [] (by kernel_rfl) all_nil ?_)
  refine AE.then_normal ?_
  refine AWp.cndF (by kernel_rfl) ?_
  exact AWp.skip (post_normal (by kernel_rfl))
theorem d1_cs0 (a b l c : Int) : DCalls Tryz.prog 72 [.ptr 0 0, .ptr 1 0] [[⟨.v (.int .i64 a), none⟩], [⟨.v (.int .i64 b), none⟩]] (some (.iface 114 (.agg [.int .i64 l, .int .i64 c]))) (fun H' => H' = [[⟨.v (.int .i64 l), none⟩], [⟨.v (.int .i64 c), none⟩]]) := by
  refine DCalls.of_recover tt_ok Tryz.func72 rfl rfl rfl rfl rfl rfl rfl rfl rfl rfl (by kernel_rfl) (by kernel_rfl) (by kernel_rfl) ?_
  refine AWp.seq (AWp.rg tt_ok [] (by kernel_rfl) all_nil ?_)
  refine AE.then_normal ?_
  refine AWp.cndT (by kernel_rfl) ?_
  refine AWp.seq (AWp.rg tt_ok [] (by kernel_rfl) all_nil ?_)
  refine AE.then_normal ?_
  refine AWp.seq (AWp.seq (AWp.rg tt_ok [] (by kernel_rfl) all_nil ?_))
  refine AE.then_normal ?_
  refine AWp.cndF (by kernel_rfl) ?_
  refine AWp.skip (AE.then_normal ?_)
  refine AWp.rgD tt_ok mo_ok [] (by kernel_rfl) all_nil ?_
  exact post_normal (by kernel_rfl)
theorem c_cs0 {n : Nat} {src : List UInt8} {b0_ : List Proc} {r : Int × Int × (List Proc)} (h : F_cs0 n src b0_ = some r) : saysOf Tryz.prog 31 [vS src, .fn 44 [.ptr 0 0]] [] [[⟨.v (encL 3 enc_Proc b0_), (some 34)⟩]] (oR (.tup [vI r.1, vI r.2.1])) [[eL 3 enc_Proc r.2.2]] := by
  refine ACalls.of_dwp (tt := tt) Tryz.func31 rfl rfl rfl ?_
  unfold F_cs0 at h
  refine DWp.seq tt_ok ?_
  refine AWp.rg tt_ok [] (by kernel_rfl) all_nil ?_
  refine DPost_normal (DWp.seq tt_ok ?_)
  obtain ⟨r1, hr1, h⟩ := bind_some h
  have p1 := c_p0.of hr1
  refine AWp.rg tt_ok [orn p1 []] (by kernel_rfl) (all_cons p1 all_nil) ?_
  refine DPost_normal (DWp.seq tt_ok ?_)
  refine AWp.seq (AWp.rg tt_ok [] (by kernel_rfl) all_nil ?_)
  refine AE.then_normal ?_
  refine AWp.cnd h (by kernel_rfl) ?_ ?_ <;> clear h <;> intro h
  · refine AWp.seq ?_
    refine AWp.rgD tt_ok mo_ok [] (by kernel_rfl) all_nil ?_
    refine AE.then_normal ?_
    refine AWp.ret ?_
    obtain rfl := Option.some.inj h
    exact DPost_ret (by kernel_rfl)
  · refine AWp.skip ?_
    refine DPost_normal ?_
    refine DWp.defer tt_ok rfl rfl rfl rfl rfl rfl rfl rfl rfl (by kernel_rfl) (ds := [.ptr 1 0, .ptr 2 0]) (by kernel_rfl) (by kernel_rfl) Tryz.func72 rfl rfl (by kernel_rfl) ?_
    refine AWp.seq (AWp.rg tt_ok [] (by kernel_rfl) all_nil ?_)
    refine AE.then_normal ?_
    refine AWp.seq ?_
    obtain ⟨r2, hr2, h⟩ := bind_some h
    have p2 := c_cd0.of hr2
    cases r2 with
    | ret za zm =>
      refine AWp.rg tt_ok [orc p2 []] (by kernel_rfl) (all_cons p2 all_nil) ?_
      refine AE.then_normal ?_
      refine AWp.seq (AWp.seq (AWp.rgD tt_ok mo_ok [] (by kernel_rfl) all_nil ?_))
      refine AE.then_normal ?_
      refine AWp.cnd h (by kernel_rfl) ?_ ?_ <;> clear h <;> intro h
      · obtain ⟨r3, hr3, h⟩ := bind_some h
        have p3 := c_t0.of hr3
        cases r3 with
        | ret zb zc =>
          have h2 : (none : Option _) = some r := h
          cases h2
        | pan zx zc =>
          obtain ⟨lc, hlc, h⟩ := bind_some h
          obtain rfl := Option.some.inj h
          obtain rfl := asFail_some hlc
          refine AWp.rgP tt_ok [orn p3 []] (x := .iface 114 (.agg [.int .i64 lc.1, .int .i64 lc.2])) (by kernel_rfl) (all_cons p3 all_nil) ?_
          exact AE.then_pan (LPost_pan (Fin1.of [1, 2] (d1_cs0 r1.2.1 r1.2.2 lc.1 lc.2) (by kernel_rfl)))
      · refine AWp.skip ?_
        obtain rfl := Option.some.inj h
        refine AE.then_normal ?_
        refine AWp.seq (AWp.rg tt_ok [] (by kernel_rfl) all_nil ?_)
        refine AE.then_normal ?_
        exact AWp.ret (LPost_ret (Fin1.of [1, 2] (d0_cs0 0 0) (by kernel_rfl)))
    | pan zx zm =>
      obtain ⟨lc, hlc, h⟩ := bind_some h
      obtain rfl := Option.some.inj h
      obtain rfl := asFail_some hlc
      refine AWp.rgP tt_ok [orc p2 []] (x := .iface 114 (.agg [.int .i64 lc.1, .int .i64 lc.2])) (by kernel_rfl) (all_cons p2 all_nil) ?_
      exact AE.then_pan (LPost_pan (Fin1.of [1, 2] (d1_cs0 r1.2.1 r1.2.2 lc.1 lc.2) (by kernel_rfl)))
theorem c_de0 {n : Nat} {src : List UInt8} : Con 18 [vS src] [] [] (F_de0 n src) (fun r => oR (.tup [vL 3 enc_Proc r.1, vI r.2.1, vI r.2.2])) (fun _ => []) :=
 Fw Tryz.func18 rfl fun h => G (G (Bd h fun r1 q1 h => Gw (c_cs0 q1) (K1 (fun v3 => ⟨[(5, eP 0 0), (6, eI r1.1), (7, eI v3)], [(0, [eL 3 enc_Proc r1.2.2])], 1⟩)
 (F_de0_j1 n r1) (G (C h (fun h => Bd h fun r2 q2 h => Rn (c_bb0.of q2) (E1 h)) fun h => Sk (E1 h))) fun v3 h => Sq (G (C h (fun h => G (Rt (tr_ (Pr
 h)))) fun h => Sk (tn_ (G (Rt (Pr h)))))))))
theorem c_db0 {n : Nat} : Con 11 [] [] [] (F_db0 n) (fun r => oR (vB r)) (fun _ => []) :=
 Fw Tryz.func11 rfl fun h => G (Bd h fun r1 q1 h => Gn (c_cy0.of q1) (Bd h fun r2 q2 h => Gn (c_cy0.of q2) (Bd h fun r3 q3 h => Gn (c_cy0.of q3)
 (Bd h fun r4 q4 h => Gn (c_am0.of q4) (Bd h fun r5 q5 h => Gn (c_de0.of q5) (Bd h fun r6 q6 h => Gn (c_am0.of q6) (As h fun g7 h => Ho
 [orv (enc_vimp_Expr (r1.1.Args.getD 1 default))]
 (A_ (fun (_ : (bif (decide (r1.1.Op = 4)) then (decide (((r1.1.Args.length : Nat) : Int) = 2)) else false) = true) => (enc_vimp_Expr (r1.1.Args.getD 1 default))) (A_ (orT g7) Z_))
 (Rt (Pr h)))))))))
theorem c_bm0 {n : Nat} {s : List UInt8} : Con 118 [vS s] [] [] (F_bm0 n s) (fun r => oR (vB r)) (fun _ => []) :=
 Fw Tryz.func118 rfl fun h => G (K0 ⟨[], [], 0⟩ (F_bm0_j1 n) (G (Bk (L1 (fun v4 => ⟨[(0, eS s), (5, eI ((s.length : Nat) : Int)), (6, eI v4)], [], 0⟩)
 (F_bm0_l2 n s) (F_bm0_b2 n s) h fun k2 v4 h => G (Sq (C h (fun h => Sk (tn_ (Sq (Bk (G (As h fun g5 h => As h fun g6 h => Ho [] (A_ (orF g6) (A_ g5 Z_))
 (C h (fun h => G (Rt (br_ (tr_ (tr_ (br_ (tr_ (Pr h)))))))) fun h => Sk (bn_ (tn_ (Rk (E1 h))))))))))) fun h => Ex (tx_ (tx_ (bh_ (E0 h))))))))) fun h => G (Rt (Pr h)))

theorem c_bo0 {n : Nat} {b0_1_ : List Int} {r : (List UInt8) × (List Int)} (h : F_bo0 n b0_1_ = some r) : saysOf Tryz.prog 60 [.ptr 0 0] [] [[⟨.sptr 0 0 90, none⟩, ⟨.v (encL 1 e_u8 b0_1_), (some 5)⟩]] (oR (vS r.1)) [[⟨.sptr 0 0 90, none⟩, eL 1 e_u8 r.2]] := by
  unfold F_bo0 at h
  obtain ⟨g, h⟩ := ass_some h
  obtain rfl := Option.some.inj h
  exact says_builderString (T5 := 5) Tryz.func60 rfl (by kernel_rfl) cellsByte bstr_nil bstr_room bstr_noroom bstr_some (bld_get g) (bld_len g)

theorem c_bj0 {n : Nat} {b0_1_ : List Int} {r : Unit} (h : F_bj0 n b0_1_ = some r) : saysOf Tryz.prog 119 [.ptr 0 0] [] [[⟨.sptr 0 0 90, none⟩, ⟨.v (encL 1 e_u8 b0_1_), (some 5)⟩]] (oR (.tup [])) [[⟨.sptr 0 0 90, none⟩, ⟨.v (encL 1 e_u8 b0_1_), (some 5)⟩]] := by
  unfold F_bj0 at h
  obtain rfl := Option.some.inj h
  exact says_copyCheck Tryz.func119 rfl (by kernel_rfl) copyCheck_used copyCheck_fresh rfl
theorem c_ak0 {n : Nat} {c : Int} {b0_1_ : List Int} : Con 67 [.ptr 0 0, .v (.int .u8 c)] [] [[⟨.sptr 0 0 90, none⟩, ⟨.v (encL 1 e_u8 b0_1_), (some 5)⟩]] (F_ak0 n c b0_1_) (fun _ => oR (.v (.nili))) (fun r => [[⟨.sptr 0 0 90, none⟩, ⟨.v (encL 1 e_u8 r), (some 5)⟩]]) :=
 Fw Tryz.func67 rfl fun h => G (Bd h fun r1 q1 h => Gn (c_bj0 q1) (As h fun g2 h => Ho
 [.own, .val (encL 1 e_u8 ([c] : List Int)), .val (encL 1 e_u8 (b0_1_ ++ ([c] : List Int)))]
 (A_ (vimp_app (k := 1) (e := e_u8) b0_1_ ([c] : List Int)) (A_ g2 (A_ (vimp_litm (k := 1) (e := e_u8) ([c] : List Int)) Z_))) (G (Rt (Pr h)))))
theorem c_av0 {n : Nat} {s : List UInt8} : Con 70 [vS s] [] [] (F_av0 n s) (fun r => oR (.tup [vS r.1, vI r.2])) (fun _ => []) :=
 Fw Tryz.func70 rfl fun h => G (Sq (G (C h (fun h => G (Rt (tr_ (Pr h)))) fun h => Sk (tn_ (Bd h fun r2 q2 h => Sq (Gn (c_bm0.of q2) (C h (fun h => G (Rt (tr_ (Pr
 h)))) fun h => Sk (tn_ (G (Bd h fun r4 q4 h => Gw (c_ak0.of q4) (K1
 (fun v25 => ⟨[(4, eP 0 0)], [(0, [⟨.sptr 0 0 90, none⟩, ⟨.v (encL 1 e_u8 v25), (some 5)⟩])], 1⟩) (F_av0_j1 n) (G (Bk (L2
 (fun v14 v15 => ⟨[(0, eS s), (4, eP 0 0), (14, eI ((s.length : Nat) : Int)), (15, eI v15)], [(0, [⟨.sptr 0 0 90, none⟩, ⟨.v (encL 1 e_u8 v14), (some 5)⟩])], 1⟩)
 (F_av0_l2 n s) (F_av0_b2 n s) h fun k2 v14 v15 h => G (Sq (C h (fun h => Sk (tn_ (K1
 (fun v22 => ⟨[(0, eS s), (4, eP 0 0), (14, eI ((s.length : Nat) : Int)), (15, eI v15)], [(0, [⟨.sptr 0 0 90, none⟩, ⟨.v (encL 1 e_u8 v22), (some 5)⟩])], 1⟩)
 (F_av0_j3 n k2 s v15) (Bk (G (K1
 (fun v19 => ⟨[(0, eS s), (4, eP 0 0), (5, eI v15), (14, eI ((s.length : Nat) : Int)), (15, eI v15)], [(0, [⟨.sptr 0 0 90, none⟩, ⟨.v (encL 1 e_u8 v19), (some 5)⟩])], 1⟩)
 (F_av0_j4 n k2 s v15) (As h fun g16 h => As h fun g17 h => Ho [] (A_ (orF g17) (A_ g16 Z_)) (C h (fun h => Bd h fun r18 q18 h => Rw
 (c_ak0.of q18) (E1 h)) fun h => Sk (E1 h))) fun v19 h => As h fun g20 h => Bd h fun r21 q21 h => Ro [orc (c_ak0.of q21) []]
 (A_ (c_ak0.of q21) (A_ g20 Z_)) (bn_ (E1 h))))) fun v22 h => Rk (E2 h)))) fun h => Ex (tx_ (tx_ (bh_ (E1 h))))))))) fun v25 h => Bd h fun r26 q26 h
 => Gw (c_ak0.of q26) (Bd h fun r27 q27 h => Gw (c_bo0 q27) (Rt (Pr h))))))))))))))
theorem c_eb0 {n : Nat} {n_ : Int} : Con 69 [vI n_] [] [] (F_eb0 n n_) (fun r => oR (vS r)) (fun _ => []) :=
 Fw Tryz.func69 rfl fun h => G (Bd h fun r1 q1 h => Gn (c_cu0 q1) (Rt (Pr h)))
theorem c_ar0 {n : Nat} {op : Int} : Con 99 [vI op] [] [] (F_ar0 n op) (fun r => oR (vI r)) (fun _ => []) :=
 Fw Tryz.func99 rfl fun h => G (K0 ⟨[], [], 0⟩ (F_ar0_j1 n) (G (Bk (G (C h (fun h => G (Rt (br_ (tr_ (Pr h))))) fun h => G (C h (fun h => G (Rt (br_ (tr_ (Pr
 h))))) fun h => G (C h (fun h => G (Rt (br_ (tr_ (Pr h))))) fun h => K1 (fun v1 => ⟨[(3, eI op), (10, eB v1)], [], 0⟩) (F_ar0_j2 n op) (G (C h (fun h => Sk (E1
 h)) fun h => G (C h (fun h => Sk (E1 h)) fun h => G (C h (fun h => Sk (E1 h)) fun h => G (C h (fun h => Sk (E1 h)) fun h => G (C h (fun h => Sk (E1 h)) fun h => Rk (E1
 h))))))) fun v1 h => C h (fun h => G (Rt (br_ (tr_ (Pr h))))) fun h => G (C h (fun h => G (Rt (br_ (tr_ (Pr h))))) fun h => K1
 (fun v2 => ⟨[(3, eI op), (19, eB v2)], [], 0⟩) (F_ar0_j3 n op) (G (C h (fun h => Sk (E1 h)) fun h => Rk (E1 h))) fun v2 h => C h (fun h => G (Rt (br_ (tr_ (Pr
 h))))) fun h => K1 (fun v3 => ⟨[(3, eI op), (22, eB v3)], [], 0⟩) (F_ar0_j4 n op) (G (C h (fun h => Sk (E1 h)) fun h => G (C h (fun h => Sk (E1 h)) fun h => Rk
 (E1 h)))) fun v3 h => C h (fun h => G (Rt (br_ (tr_ (Pr h))))) fun h => G (C h (fun h => G (Rt (br_ (tr_ (Pr h))))) fun h => Sk (bn_ (E0 h)))))))))) fun h => G (Rt (Pr
 h)))
theorem c_dm0 {n : Nat} {op : Int} : Con 102 [vI op] [] [] (F_dm0 n op) (fun r => oR (vS r)) (fun _ => []) :=
 Fw Tryz.func102 rfl fun h => G (Sq (G (Bk (G (C h (fun h => G (Rt (br_ (tr_ (Pr h))))) fun h => G (C h (fun h => G (Rt (br_ (tr_ (Pr h))))) fun h => G (C h (fun h => G
 (Rt (br_ (tr_ (Pr h))))) fun h => G (C h (fun h => G (Rt (br_ (tr_ (Pr h))))) fun h => G (C h (fun h => G (Rt (br_ (tr_ (Pr h))))) fun h => G (C h (fun h => G (Rt (br_
 (tr_ (Pr h))))) fun h => G (C h (fun h => G (Rt (br_ (tr_ (Pr h))))) fun h => G (C h (fun h => G (Rt (br_ (tr_ (Pr h))))) fun h => G (C h (fun h => G (Rt (br_ (tr_ (Pr
 h))))) fun h => G (C h (fun h => G (Rt (br_ (tr_ (Pr h))))) fun h => G (C h (fun h => G (Rt (br_ (tr_ (Pr h))))) fun h => G (C h (fun h => G (Rt (br_ (tr_ (Pr h))))) fun
 h => G (C h (fun h => G (Rt (br_ (tr_ (Pr h))))) fun h => Sk (bn_ (tn_ (G (Rt (Pr h))))))))))))))))))))))
theorem c_dn0 {n : Nat} {op : Int} : Con 101 [vI op] [] [] (F_dn0 n op) (fun r => oR (vS r)) (fun _ => []) :=
 Fw Tryz.func101 rfl fun h => G (Sq (G (Bk (G (C h (fun h => G (Rt (br_ (tr_ (Pr h))))) fun h => G (C h (fun h => G (Rt (br_ (tr_ (Pr h))))) fun h => G (C h (fun h => G
 (Rt (br_ (tr_ (Pr h))))) fun h => G (C h (fun h => G (Rt (br_ (tr_ (Pr h))))) fun h => G (C h (fun h => G (Rt (br_ (tr_ (Pr h))))) fun h => G (C h (fun h => G (Rt (br_
 (tr_ (Pr h))))) fun h => G (C h (fun h => G (Rt (br_ (tr_ (Pr h))))) fun h => G (C h (fun h => G (Rt (br_ (tr_ (Pr h))))) fun h => Sk (bn_ (tn_ (G (Rt (Pr
 h)))))))))))))))))
abbrev I_s0 (f : Expr → Option (List UInt8)) : Prop := ∀ (e : Expr), Con 48 [.v (.agg [.int .i64 e.Op, .int .i64 e.N, .str e.S, encL 4 enc_Expr e.Args])] [] [] (f e) (fun r => oR (vS r)) (fun _ => [])
abbrev I_an0 (f : Expr → Int → Option (List UInt8)) : Prop := ∀ (e : Expr) (least : Int), Con 100 [.v (.agg [.int .i64 e.Op, .int .i64 e.N, .str e.S, encL 4 enc_Expr e.Args]), vI least] [] [] (f e least) (fun r => oR (vS r)) (fun _ => [])
theorem cB_s0 {n : Nat} {f_s0 : Expr → Option (List UInt8)} {f_an0 : Expr → Int → Option (List UInt8)} (i_s0 : I_s0 f_s0) (i_an0 : I_an0 f_an0) : I_s0 (B_s0 n f_s0 f_an0) := fun e =>
 Fw Tryz.func48 rfl fun h => G (Bd h fun r1 q1 h => Gn (c_ar0.of q1) (Sq (Bk (G (C h (fun h => Bd h fun r3 q3 h => Gn (c_eb0.of q3) (Rt (br_ (tr_ (Pr
 h))))) fun h => G (C h (fun h => Bd h fun r5 q5 h => Gn (c_av0.of q5) (G (Rt (br_ (tr_ (Pr h)))))) fun h => G (C h (fun h => G (Rt (br_ (tr_ (Pr h))))) fun h => G
 (C h (fun h => As h fun g8 h => Bd h fun r9 q9 h => As h fun g10 h => Ho [orv (enc_vimp_Expr (e.Args.getD 0 default)), orn ((i_an0 _ _).of q9) []]
 (A_ g10 (A_ ((i_an0 _ _).of q9) (A_ (enc_vimp_Expr (e.Args.getD 0 default)) (A_ g8 Z_)))) (Rt (br_ (tr_ (Pr h))))) fun h => G (C h (fun h => As h fun g12 h => Bd h
 fun r13 q13 h => As h fun g14 h => Ho [orv (enc_vimp_Expr (e.Args.getD 0 default)), orn ((i_an0 _ _).of q13) []]
 (A_ g14 (A_ ((i_an0 _ _).of q13) (A_ (enc_vimp_Expr (e.Args.getD 0 default)) (A_ g12 Z_)))) (Rt (br_ (tr_ (Pr h))))) fun h => G (C h (fun h => Bd h fun r16 q16 h
 => As h fun g17 h => Ho [orn (c_dn0.of q16) []] (A_ g17 (A_ (c_dn0.of q16) Z_)) (Rt (br_ (tr_ (Pr h))))) fun h => G (C h (fun h => Bd h fun r19 q19 h =>
 As h fun g20 h => As h fun g21 h => Bd h fun r22 q22 h => As h fun g23 h => As h fun g24 h => Hd
 [(2, [orn (c_dn0.of q19) []]), (6, [orv (enc_vimp_Expr (e.Args.getD 0 default))]), (8, [orn ((i_s0 _).of q22) []])]
 (A_ g24 (A_ g23 (A_ ((i_s0 _).of q22) (A_ (enc_vimp_Expr (e.Args.getD 0 default)) (A_ g21 (A_ g20 (A_ (c_dn0.of q19) Z_))))))) (Rt (br_ (tr_ (Pr h)))))
 fun h => G (C h (fun h => As h fun g26 h => Bd h fun r27 q27 h => As h fun g28 h => Bd h fun r29 q29 h => As h fun g30 h => As h fun g31 h => As h fun g32 h => Bd h fun
 r33 q33 h => As h fun g34 h => Hd
 [(2, [orv (enc_vimp_Expr (e.Args.getD 0 default))]), (4, [orn ((i_an0 _ _).of q27) []]), (8, [orn (c_dm0.of q29) []]), (13, [orv (enc_vimp_Expr (e.Args.getD 1 default))]), (15, [orn ((i_an0 _ _).of q33) []])]
 (A_ g34 (A_ ((i_an0 _ _).of q33) (A_ (enc_vimp_Expr (e.Args.getD 1 default)) (A_ g32 (A_ g31 (A_ g30 (A_ (c_dm0.of q29) (A_ g28 (A_ ((i_an0 _ _).of q27) (A_ (enc_vimp_Expr (e.Args.getD 0 default)) (A_ g26 Z_)))))))))))
 (Rt (br_ (tr_ (Pr h))))) fun h => Sk (bn_ (tn_ (As h fun g35 h => Bd h fun r36 q36 h => As h fun g37 h => Bd h fun r38 q38 h => As h fun g39 h => As h fun g40 h => As h
 fun g41 h => Bd h fun r42 q42 h => As h fun g43 h => Hd
 [(2, [orv (enc_vimp_Expr (e.Args.getD 0 default))]), (5, [orn ((i_an0 _ _).of q36) []]), (9, [orn (c_dm0.of q38) []]), (14, [orv (enc_vimp_Expr (e.Args.getD 1 default))]), (18, [orn ((i_an0 _ _).of q42) []])]
 (A_ g43 (A_ ((i_an0 _ _).of q42) (A_ (enc_vimp_Expr (e.Args.getD 1 default)) (A_ g41 (A_ g40 (A_ g39 (A_ (c_dm0.of q38) (A_ g37 (A_ ((i_an0 _ _).of q36) (A_ (enc_vimp_Expr (e.Args.getD 0 default)) (A_ g35 Z_)))))))))))
 (Rt (Pr h)))))))))))))))))
theorem cB_an0 {n : Nat} {f_s0 : Expr → Option (List UInt8)} {f_an0 : Expr → Int → Option (List UInt8)} (i_s0 : I_s0 f_s0) (i_an0 : I_an0 f_an0) : I_an0 (B_an0 n f_s0 f_an0) := fun e least =>
 Fw Tryz.func100 rfl fun h => G (Bd h fun r1 q1 h => Sq (Gn (c_ar0.of q1) (C h (fun h => Bd h fun r3 q3 h => As h fun g4 h => As h fun g5 h => Ho
 [orn ((i_s0 _).of q3) []] (A_ g5 (A_ g4 (A_ ((i_s0 _).of q3) Z_))) (Rt (tr_ (Pr h)))) fun h => Sk (tn_ (Bd h fun r6 q6 h => Gn
 ((i_s0 _).of q6) (Rt (Pr h)))))))
theorem cS_s0 (n : Nat) : I_s0 (F_s0 n) ∧ I_an0 (F_an0 n) := by
 induction n with
 | zero => exact ⟨fun e => ⟨fun h => no_ h⟩, fun e least => ⟨fun h => no_ h⟩⟩
 | succ m ih => obtain ⟨i0, i1⟩ := ih; exact ⟨cB_s0 (n := m) i0 i1, cB_an0 (n := m) i0 i1⟩
theorem c_s0 {n : Nat} : I_s0 (F_s0 n) := (cS_s0 n).1
theorem c_dd0 {n : Nat} {ty : Int} : Con 57 [vI ty] [] [] (F_dd0 n ty) (fun r => oR (vS r)) (fun _ => []) :=
 Fw Tryz.func57 rfl fun h => G (Sq (G (Bk (G (C h (fun h => G (Rt (br_ (tr_ (Pr h))))) fun h => G (C h (fun h => G (Rt (br_ (tr_ (Pr h))))) fun h => Sk (bn_ (tn_ (G (Rt
 (Pr h)))))))))))
theorem c_bp0 {n : Nat} {op : Int} : Con 112 [vI op] [] [] (F_bp0 n op) (fun r => Sm.on r (fun zy0 => oR (.fn 147 [])) (fun zz0 => Sm.on zz0 (fun zy1 => oR (.fn 148 [])) (fun zz1 => Sm.on zz1 (fun zy2 => oR (.fn 149 [])) (fun zz2 => Sm.on zz2 (fun zy3 => oR (.fn 150 [])) (fun zz3 => Sm.on zz3 (fun zy4 => oR (.fn 151 [])) (fun zz4 => Sm.on zz4 (fun zy5 => oR (.fn 152 [])) (fun zz5 => Sm.on zz5 (fun zy6 => oR (.fn 153 [])) (fun zy7 => oR (.fn 154 []))))))))) (fun _ => []) :=
 Fw Tryz.func112 rfl fun h => G (Sq (G (Bk (G (C h (fun h => G (Rt (br_ (tr_ (Pr h))))) fun h => G (C h (fun h => G (Rt (br_ (tr_ (Pr h))))) fun h => G (C h (fun h => G
 (Rt (br_ (tr_ (Pr h))))) fun h => G (C h (fun h => G (Rt (br_ (tr_ (Pr h))))) fun h => G (C h (fun h => G (Rt (br_ (tr_ (Pr h))))) fun h => G (C h (fun h => G (Rt (br_
 (tr_ (Pr h))))) fun h => G (C h (fun h => G (Rt (br_ (tr_ (Pr h))))) fun h => Sk (bn_ (tn_ (G (Rt (Pr h))))))))))))))))
theorem c_do0 {n : Nat} {n_ : Int} : Con 69 [vI n_] [] [] (F_do0 n n_) (fun r => oR (vS r)) (fun _ => []) :=
 Fw Tryz.func69 rfl fun h => G (Bd h fun r1 q1 h => Gn (c_ef0 q1) (Rt (Pr h)))

theorem c_bf0 {n : Nat} {b0_1_ : List Int} {b0_2_ : Int} {r : Unit} (h : F_bf0 n b0_1_ b0_2_ = some r) : saysOf Tryz.prog 119 [.ptr 0 0] [] [[⟨.sptr 0 0 90, none⟩, ⟨.v (encL 1 e_u8 b0_1_), (some 5)⟩, eI b0_2_]] (oR (.tup [])) [[⟨.sptr 0 0 90, none⟩, ⟨.v (encL 1 e_u8 b0_1_), (some 5)⟩, eI b0_2_]] := by
  unfold F_bf0 at h
  obtain rfl := Option.some.inj h
  exact says_copyCheck Tryz.func119 rfl (by kernel_rfl) copyCheck_used copyCheck_fresh rfl
theorem c_cf0 {n : Nat} {c : Int} {b0_1_ : List Int} {b0_2_ : Int} : Con 67 [.ptr 0 0, .v (.int .u8 c)] [] [[⟨.sptr 0 0 90, none⟩, ⟨.v (encL 1 e_u8 b0_1_), (some 5)⟩, eI b0_2_]] (F_cf0 n c b0_1_ b0_2_) (fun _ => oR (.v (.nili))) (fun r => [[⟨.sptr 0 0 90, none⟩, ⟨.v (encL 1 e_u8 r), (some 5)⟩, eI b0_2_]]) :=
 Fw Tryz.func67 rfl fun h => G (Bd h fun r1 q1 h => Gn (c_bf0 q1) (As h fun g2 h => Ho
 [.own, .val (encL 1 e_u8 ([c] : List Int)), .val (encL 1 e_u8 (b0_1_ ++ ([c] : List Int)))]
 (A_ (vimp_app (k := 1) (e := e_u8) b0_1_ ([c] : List Int)) (A_ g2 (A_ (vimp_litm (k := 1) (e := e_u8) ([c] : List Int)) Z_))) (G (Rt (Pr h)))))
theorem c_bk0 {n : Nat} {s : List UInt8} {b0_1_ : List Int} {b0_2_ : Int} : Con 68 [.ptr 0 0, vS s] [] [[⟨.sptr 0 0 90, none⟩, ⟨.v (encL 1 e_u8 b0_1_), (some 5)⟩, eI b0_2_]] (F_bk0 n s b0_1_ b0_2_) (fun r => oR (.tup [vI r.1, .v (.nili)])) (fun r => [[⟨.sptr 0 0 90, none⟩, ⟨.v (encL 1 e_u8 r.2), (some 5)⟩, eI b0_2_]]) :=
 Fw Tryz.func68 rfl fun h => G (Bd h fun r1 q1 h => Gn (c_bf0 q1) (As h fun g2 h => Ho
 [.own, .val (encL 1 e_u8 (b0_1_ ++ s.map fun b => (b.toNat : Int)))] (A_ (vimp_app_str b0_1_ s) (A_ g2 Z_)) (G (Rt (Pr h)))))
theorem c_j0 {n : Nat} {parts : List (List UInt8)} {b0_1_ : List Int} {b0_2_ : Int} : Con 58 [.ptr 0 0, vL 1 e_str parts] [] [[⟨.sptr 0 0 90, none⟩, ⟨.v (encL 1 e_u8 b0_1_), (some 5)⟩, eI b0_2_]] (F_j0 n parts b0_1_ b0_2_) (fun _ => oR (.tup [])) (fun r => [[⟨.sptr 0 0 90, none⟩, ⟨.v (encL 1 e_u8 r), (some 5)⟩, eI b0_2_]]) :=
 Fw Tryz.func58 rfl fun h => K1 (fun v9 => ⟨[(0, eP 0 0), (1, eL 1 e_str parts)], [(0, [⟨.sptr 0 0 90, none⟩, ⟨.v (encL 1 e_u8 v9), (some 5)⟩, eI b0_2_])], 1⟩)
 (F_j0_j1 n parts b0_2_) (G (Bk (L2
 (fun v4 v5 => ⟨[(0, eP 0 0), (1, eL 1 e_str parts), (9, eI b0_2_), (10, eI v5)], [(0, [⟨.sptr 0 0 90, none⟩, ⟨.v (encL 1 e_u8 v4), (some 5)⟩, eI b0_2_])], 1⟩)
 (F_j0_l4 n parts b0_2_) (F_j0_b4 n parts b0_2_) h fun k4 v4 v5 h => G (Sq (C h (fun h => Sk (tn_ (Sq (Bk (Bd h fun r6 q6 h => Rw
 (c_bk0.of q6) (bn_ (tn_ (Rk (E2 h))))))))) fun h => Ex (tx_ (tx_ (bh_ (E1 h))))))))) fun v9 h => K1
 (fun v20 => ⟨[(0, eP 0 0)], [(0, [⟨.sptr 0 0 90, none⟩, ⟨.v (encL 1 e_u8 v20), (some 5)⟩, eI b0_2_])], 1⟩) (F_j0_j2 n b0_2_) (G (Bk (L2
 (fun v14 v15 => ⟨[(0, eP 0 0), (17, eL 1 e_str parts), (18, eI ((parts.length : Nat) : Int)), (19, eI v15)], [(0, [⟨.sptr 0 0 90, none⟩, ⟨.v (encL 1 e_u8 v14), (some 5)⟩, eI b0_2_])], 1⟩)
 (F_j0_l3 n parts b0_2_) (F_j0_b3 n parts b0_2_) h fun k3 v14 v15 h => G (Sq (C h (fun h => Sk (tn_ (Sq (Bk (As h fun g16 h => Ho [.raw]
 (A_ g16 Z_) (Bd h fun r17 q17 h => Rw (c_bk0.of q17) (bn_ (tn_ (Rk (E2 h)))))))))) fun h => Ex (tx_ (tx_ (bh_ (E1 h))))))))) fun v20 h => Bd h fun
 r21 q21 h => Rw (c_cf0.of q21) (Pm h)
theorem c_dp0 {n : Nat} {s : Stmt} {b0_1_ : List Int} {b0_2_ : Int} : Con 154 [.ptr 0 0, .v (.agg [.int .i64 s.Op, .str s.Name, .int .i64 s.Max, .int .i64 s.A.Op, .int .i64 s.A.N, .str s.A.S, encL 4 enc_Expr s.A.Args, .int .i64 s.B.Op, .int .i64 s.B.N, .str s.B.S, encL 4 enc_Expr s.B.Args, encL 13 enc_Stmt s.Body, encL 13 enc_Stmt s.Else])] [] [[⟨.sptr 0 0 90, none⟩, ⟨.v (encL 1 e_u8 b0_1_), (some 5)⟩, eI b0_2_]] (F_dp0 n s b0_1_ b0_2_) (fun _ => oR (.tup [])) (fun r => [[⟨.sptr 0 0 90, none⟩, ⟨.v (encL 1 e_u8 r), (some 5)⟩, eI b0_2_]]) :=
 Fw Tryz.func154 rfl fun h => G (Bd h fun r1 q1 h => Bd h fun r2 q2 h => Ro
 [orn (c_do0.of q1) [], .val (encL 1 e_str ([([97, 98, 111, 114, 116, 32] : List UInt8), r1, ([59] : List UInt8)] : List (List UInt8))), orc (c_j0.of q2) []]
 (A_ (c_j0.of q2) (A_ (vimp_litm (k := 1) (e := e_str) ([([97, 98, 111, 114, 116, 32] : List UInt8), r1, ([59] : List UInt8)] : List (List UInt8))) (A_ (c_do0.of q1) Z_)))
 (Pm h))
theorem c_dg0 {n : Nat} {s : Stmt} {b0_1_ : List Int} {b0_2_ : Int} : Con 148 [.ptr 0 0, .v (.agg [.int .i64 s.Op, .str s.Name, .int .i64 s.Max, .int .i64 s.A.Op, .int .i64 s.A.N, .str s.A.S, encL 4 enc_Expr s.A.Args, .int .i64 s.B.Op, .int .i64 s.B.N, .str s.B.S, encL 4 enc_Expr s.B.Args, encL 13 enc_Stmt s.Body, encL 13 enc_Stmt s.Else])] [] [[⟨.sptr 0 0 90, none⟩, ⟨.v (encL 1 e_u8 b0_1_), (some 5)⟩, eI b0_2_]] (F_dg0 n s b0_1_ b0_2_) (fun _ => oR (.tup [])) (fun r => [[⟨.sptr 0 0 90, none⟩, ⟨.v (encL 1 e_u8 r), (some 5)⟩, eI b0_2_]]) :=
 Fw Tryz.func148 rfl fun h => G (Bd h fun r1 q1 h => Bd h fun r2 q2 h => Rd
 [(5, [orn ((c_s0 _).of q1) []]), (6, [.val (encL 1 e_str ([s.Name, ([32, 61, 32] : List UInt8), r1, ([59] : List UInt8)] : List (List UInt8)))]), (7, [orc (c_j0.of q2) []])]
 (A_ (c_j0.of q2) (A_ (vimp_litm (k := 1) (e := e_str) ([s.Name, ([32, 61, 32] : List UInt8), r1, ([59] : List UInt8)] : List (List UInt8))) (A_ ((c_s0 _).of q1) Z_)))
 (Pm h))
theorem c_dc0 {n : Nat} {s : Stmt} {b0_1_ : List Int} {b0_2_ : Int} : Con 147 [.ptr 0 0, .v (.agg [.int .i64 s.Op, .str s.Name, .int .i64 s.Max, .int .i64 s.A.Op, .int .i64 s.A.N, .str s.A.S, encL 4 enc_Expr s.A.Args, .int .i64 s.B.Op, .int .i64 s.B.N, .str s.B.S, encL 4 enc_Expr s.B.Args, encL 13 enc_Stmt s.Body, encL 13 enc_Stmt s.Else])] [] [[⟨.sptr 0 0 90, none⟩, ⟨.v (encL 1 e_u8 b0_1_), (some 5)⟩, eI b0_2_]] (F_dc0 n s b0_1_ b0_2_) (fun _ => oR (.tup [])) (fun r => [[⟨.sptr 0 0 90, none⟩, ⟨.v (encL 1 e_u8 r), (some 5)⟩, eI b0_2_]]) :=
 Fw Tryz.func147 rfl fun h => G (Bd h fun r1 q1 h => Bd h fun r2 q2 h => Rd
 [(5, [orn ((c_s0 _).of q1) []]), (6, [.val (encL 1 e_str ([([108, 101, 116, 32] : List UInt8), s.Name, ([32, 61, 32] : List UInt8), r1, ([59] : List UInt8)] : List (List UInt8)))]), (7, [orc (c_j0.of q2) []])]
 (A_ (c_j0.of q2) (A_ (vimp_litm (k := 1) (e := e_str) ([([108, 101, 116, 32] : List UInt8), s.Name, ([32, 61, 32] : List UInt8), r1, ([59] : List UInt8)] : List (List UInt8))) (A_ ((c_s0 _).of q1) Z_)))
 (Pm h))
theorem c_dr0 {n : Nat} {s : Stmt} {b0_1_ : List Int} {b0_2_ : Int} : Con 153 [.ptr 0 0, .v (.agg [.int .i64 s.Op, .str s.Name, .int .i64 s.Max, .int .i64 s.A.Op, .int .i64 s.A.N, .str s.A.S, encL 4 enc_Expr s.A.Args, .int .i64 s.B.Op, .int .i64 s.B.N, .str s.B.S, encL 4 enc_Expr s.B.Args, encL 13 enc_Stmt s.Body, encL 13 enc_Stmt s.Else])] [] [[⟨.sptr 0 0 90, none⟩, ⟨.v (encL 1 e_u8 b0_1_), (some 5)⟩, eI b0_2_]] (F_dr0 n s b0_1_ b0_2_) (fun _ => oR (.tup [])) (fun r => [[⟨.sptr 0 0 90, none⟩, ⟨.v (encL 1 e_u8 r), (some 5)⟩, eI b0_2_]]) :=
 Fw Tryz.func153 rfl fun h => G (Bd h fun r1 q1 h => Bd h fun r2 q2 h => Ro
 [orn ((c_s0 _).of q1) [], .val (encL 1 e_str ([([101, 109, 105, 116, 32] : List UInt8), r1, ([59] : List UInt8)] : List (List UInt8))), orc (c_j0.of q2) []]
 (A_ (c_j0.of q2) (A_ (vimp_litm (k := 1) (e := e_str) ([([101, 109, 105, 116, 32] : List UInt8), r1, ([59] : List UInt8)] : List (List UInt8))) (A_ ((c_s0 _).of q1) Z_)))
 (Pm h))
theorem c_dx0 {n : Nat} {s : Stmt} {b0_1_ : List Int} {b0_2_ : Int} : Con 149 [.ptr 0 0, .v (.agg [.int .i64 s.Op, .str s.Name, .int .i64 s.Max, .int .i64 s.A.Op, .int .i64 s.A.N, .str s.A.S, encL 4 enc_Expr s.A.Args, .int .i64 s.B.Op, .int .i64 s.B.N, .str s.B.S, encL 4 enc_Expr s.B.Args, encL 13 enc_Stmt s.Body, encL 13 enc_Stmt s.Else])] [] [[⟨.sptr 0 0 90, none⟩, ⟨.v (encL 1 e_u8 b0_1_), (some 5)⟩, eI b0_2_]] (F_dx0 n s b0_1_ b0_2_) (fun _ => oR (.tup [])) (fun r => [[⟨.sptr 0 0 90, none⟩, ⟨.v (encL 1 e_u8 r), (some 5)⟩, eI b0_2_]]) :=
 Fw Tryz.func149 rfl fun h => G (Bd h fun r1 q1 h => Bd h fun r2 q2 h => Bd h fun r3 q3 h => Rd
 [(3, [orn ((c_s0 _).of q1) []]), (6, [orn ((c_s0 _).of q2) []]), (7, [.val (encL 1 e_str ([([112, 117, 116, 32] : List UInt8), r1, ([32, 61, 32] : List UInt8), r2, ([59] : List UInt8)] : List (List UInt8)))]), (8, [orc (c_j0.of q3) []])]
 (A_ (c_j0.of q3) (A_ (vimp_litm (k := 1) (e := e_str) ([([112, 117, 116, 32] : List UInt8), r1, ([32, 61, 32] : List UInt8), r2, ([59] : List UInt8)] : List (List UInt8))) (A_ ((c_s0 _).of q2) (A_ ((c_s0 _).of q1) Z_))))
 (Pm h))
theorem c_dh0 {n : Nat} {s : Stmt} {b0_1_ : List Int} {b0_2_ : Int} : Con 150 [.ptr 0 0, .v (.agg [.int .i64 s.Op, .str s.Name, .int .i64 s.Max, .int .i64 s.A.Op, .int .i64 s.A.N, .str s.A.S, encL 4 enc_Expr s.A.Args, .int .i64 s.B.Op, .int .i64 s.B.N, .str s.B.S, encL 4 enc_Expr s.B.Args, encL 13 enc_Stmt s.Body, encL 13 enc_Stmt s.Else])] [] [[⟨.sptr 0 0 90, none⟩, ⟨.v (encL 1 e_u8 b0_1_), (some 5)⟩, eI b0_2_]] (F_dh0 n s b0_1_ b0_2_) (fun _ => oR (.tup [])) (fun r => [[⟨.sptr 0 0 90, none⟩, ⟨.v (encL 1 e_u8 r), (some 5)⟩, eI b0_2_]]) :=
 Fw Tryz.func150 rfl fun h => G (Bd h fun r1 q1 h => Bd h fun r2 q2 h => Ro
 [orn ((c_s0 _).of q1) [], .val (encL 1 e_str ([([100, 101, 108, 101, 116, 101, 32] : List UInt8), r1, ([59] : List UInt8)] : List (List UInt8))), orc (c_j0.of q2) []]
 (A_ (c_j0.of q2) (A_ (vimp_litm (k := 1) (e := e_str) ([([100, 101, 108, 101, 116, 101, 32] : List UInt8), r1, ([59] : List UInt8)] : List (List UInt8))) (A_ ((c_s0 _).of q1) Z_)))
 (Pm h))
abbrev I_f0 (f : (List Stmt) → (List Int) → Int → Option ((List Int) × Int)) : Prop := ∀ (l : List Stmt) (b0_1_ : List Int) (b0_2_ : Int), Con 59 [.ptr 0 0, vL 13 enc_Stmt l] [] [[⟨.sptr 0 0 90, none⟩, ⟨.v (encL 1 e_u8 b0_1_), (some 5)⟩, eI b0_2_]] (f l b0_1_ b0_2_) (fun _ => oR (.tup [])) (fun r => [[⟨.sptr 0 0 90, none⟩, ⟨.v (encL 1 e_u8 r.1), (some 5)⟩, eI r.2]])
abbrev I_n0 (f : Stmt → (List Int) → Int → Option ((List Int) × Int)) : Prop := ∀ (s : Stmt) (b0_1_ : List Int) (b0_2_ : Int), Con 151 [.ptr 0 0, .v (.agg [.int .i64 s.Op, .str s.Name, .int .i64 s.Max, .int .i64 s.A.Op, .int .i64 s.A.N, .str s.A.S, encL 4 enc_Expr s.A.Args, .int .i64 s.B.Op, .int .i64 s.B.N, .str s.B.S, encL 4 enc_Expr s.B.Args, encL 13 enc_Stmt s.Body, encL 13 enc_Stmt s.Else])] [] [[⟨.sptr 0 0 90, none⟩, ⟨.v (encL 1 e_u8 b0_1_), (some 5)⟩, eI b0_2_]] (f s b0_1_ b0_2_) (fun _ => oR (.tup [])) (fun r => [[⟨.sptr 0 0 90, none⟩, ⟨.v (encL 1 e_u8 r.1), (some 5)⟩, eI r.2]])
abbrev I_q0 (f : Stmt → (List Int) → Int → Option ((List Int) × Int)) : Prop := ∀ (s : Stmt) (b0_1_ : List Int) (b0_2_ : Int), Con 152 [.ptr 0 0, .v (.agg [.int .i64 s.Op, .str s.Name, .int .i64 s.Max, .int .i64 s.A.Op, .int .i64 s.A.N, .str s.A.S, encL 4 enc_Expr s.A.Args, .int .i64 s.B.Op, .int .i64 s.B.N, .str s.B.S, encL 4 enc_Expr s.B.Args, encL 13 enc_Stmt s.Body, encL 13 enc_Stmt s.Else])] [] [[⟨.sptr 0 0 90, none⟩, ⟨.v (encL 1 e_u8 b0_1_), (some 5)⟩, eI b0_2_]] (f s b0_1_ b0_2_) (fun _ => oR (.tup [])) (fun r => [[⟨.sptr 0 0 90, none⟩, ⟨.v (encL 1 e_u8 r.1), (some 5)⟩, eI r.2]])
theorem cB_f0 {n : Nat} {f_f0 : (List Stmt) → (List Int) → Int → Option ((List Int) × Int)} {f_n0 : Stmt → (List Int) → Int → Option ((List Int) × Int)} {f_q0 : Stmt → (List Int) → Int → Option ((List Int) × Int)} (i_f0 : I_f0 f_f0) (i_n0 : I_n0 f_n0) (i_q0 : I_q0 f_q0) : I_f0 (B_f0 n f_f0 f_n0 f_q0) := fun l b0_1_ b0_2_ =>
 Fw Tryz.func59 rfl fun h => G (K2 (fun v32 v33 => ⟨[(0, eP 0 0)], [(0, [⟨.sptr 0 0 90, none⟩, ⟨.v (encL 1 e_u8 v32), (some 5)⟩, eI v33])], 1⟩)
 (F_f0_j1 n f_f0 f_n0 f_q0) (G (Bk (L3
 (fun v15 v16 v17 => ⟨[(0, eP 0 0), (14, eL 13 enc_Stmt l), (15, eI ((l.length : Nat) : Int)), (16, eI v17)], [(0, [⟨.sptr 0 0 90, none⟩, ⟨.v (encL 1 e_u8 v15), (some 5)⟩, eI v16])], 1⟩)
 (F_f0_l2 n f_f0 f_n0 f_q0 l)
 (F_f0_b2 n f_f0 f_n0 f_q0 l) h fun k2 v15 v16 v17 h => G (Sq (C h (fun h => Sk (tn_ (Sq (Bk (As h
 fun g18 h => Ho [orv (enc_vimp_Stmt (l.getD (v17).toNat default))] (A_ (enc_vimp_Stmt (l.getD (v17).toNat default)) (A_ g18 Z_)) (Bd h fun r19 q19 h => Sq (Sv
 (fun x => x) q19 h (fun y20_0 q19 h => Rn (c_bp0.of q19) (tn_ (Bd h fun r21 q21 h => Rw (c_dc0.of q21) (bn_ (tn_ (Rk (E3 h))))))) fun y20_z0
 q19 h => Sv (fun x => (.inr x)) q19 h (fun y20_1 q19 h => Rn (c_bp0.of q19) (tn_ (Bd h fun r22 q22 h => Rw (c_dg0.of q22) (bn_ (tn_ (Rk (E3
 h))))))) fun y20_z1 q19 h => Sv (fun x => (.inr (.inr x))) q19 h (fun y20_2 q19 h => Rn (c_bp0.of q19) (tn_ (Bd h fun r23 q23 h => Rw
 (c_dx0.of q23) (bn_ (tn_ (Rk (E3 h))))))) fun y20_z2 q19 h => Sv (fun x => (.inr (.inr (.inr x)))) q19 h (fun y20_3 q19 h => Rn (c_bp0.of q19)
 (tn_ (Bd h fun r24 q24 h => Rw (c_dh0.of q24) (bn_ (tn_ (Rk (E3 h))))))) fun y20_z3 q19 h => Sv (fun x => (.inr (.inr (.inr (.inr x))))) q19 h (fun
 y20_4 q19 h => Rn (c_bp0.of q19) (tn_ (Bd h fun r25 q25 h => Rw ((i_n0 _ _ _).of q25) (bn_ (tn_ (Rk (E3 h))))))) fun y20_z4 q19 h => Sv
 (fun x => (.inr (.inr (.inr (.inr (.inr x)))))) q19 h (fun y20_5 q19 h => Rn (c_bp0.of q19) (tn_ (Bd h fun r26 q26 h => Rw ((i_q0 _ _ _).of q26)
 (bn_ (tn_ (Rk (E3 h))))))) fun y20_z5 q19 h => Sv (fun x => (.inr (.inr (.inr (.inr (.inr (.inr x))))))) q19 h (fun y20_6 q19 h => Rn (c_bp0.of q19) (tn_ (Bd h
 fun r27 q27 h => Rw (c_dr0.of q27) (bn_ (tn_ (Rk (E3 h))))))) fun y20_7 q19 h => Rn (c_bp0.of q19) (tn_ (Bd h fun r28 q28 h => Rw
 (c_dp0.of q28) (bn_ (tn_ (Rk (E3 h))))))))))))) fun h => Ex (tx_ (tx_ (bh_ (E2 h))))))))) fun v32 v33 h => Rk (Pm h))
theorem cB_n0 {n : Nat} {f_f0 : (List Stmt) → (List Int) → Int → Option ((List Int) × Int)} {f_n0 : Stmt → (List Int) → Int → Option ((List Int) × Int)} {f_q0 : Stmt → (List Int) → Int → Option ((List Int) × Int)} (i_f0 : I_f0 f_f0) (i_n0 : I_n0 f_n0) (i_q0 : I_q0 f_q0) : I_n0 (B_n0 n f_f0 f_n0 f_q0) := fun s b0_1_ b0_2_ =>
 Fw Tryz.func151 rfl fun h => G (Bd h fun r1 q1 h => Bd h fun r2 q2 h => Ho
 [orn ((c_s0 _).of q1) [], .val (encL 1 e_str ([([105, 102, 32] : List UInt8), r1, ([32, 123] : List UInt8)] : List (List UInt8))), orc (c_j0.of q2) []]
 (A_ (c_j0.of q2) (A_ (vimp_litm (k := 1) (e := e_str) ([([105, 102, 32] : List UInt8), r1, ([32, 123] : List UInt8)] : List (List UInt8))) (A_ ((c_s0 _).of q1) Z_)))
 (Bd h fun r3 q3 h => Gw ((i_f0 _ _ _).of q3) (K2
 (fun v6 v7 => ⟨[(0, eP 0 0)], [(0, [⟨.sptr 0 0 90, none⟩, ⟨.v (encL 1 e_u8 v6), (some 5)⟩, eI v7])], 1⟩)
 (F_n0_j1 n f_f0 f_n0 f_q0) (G (C h (fun h => Bd h fun r4 q4 h => Ho
 [.val (encL 1 e_str ([([125, 32, 101, 108, 115, 101, 32, 123] : List UInt8)] : List (List UInt8))), orc (c_j0.of q4) []]
 (A_ (c_j0.of q4) (A_ (vimp_litm (k := 1) (e := e_str) ([([125, 32, 101, 108, 115, 101, 32, 123] : List UInt8)] : List (List UInt8))) Z_)) (Bd h fun r5 q5
 h => Rw ((i_f0 _ _ _).of q5) (E2 h))) fun h => Sk (E2 h))) fun v6 v7 h => Bd h fun r8 q8 h => Ro
 [.val (encL 1 e_str ([([125] : List UInt8)] : List (List UInt8))), orc (c_j0.of q8) []]
 (A_ (c_j0.of q8) (A_ (vimp_litm (k := 1) (e := e_str) ([([125] : List UInt8)] : List (List UInt8))) Z_)) (Pm h))))
theorem cB_q0 {n : Nat} {f_f0 : (List Stmt) → (List Int) → Int → Option ((List Int) × Int)} {f_n0 : Stmt → (List Int) → Int → Option ((List Int) × Int)} {f_q0 : Stmt → (List Int) → Int → Option ((List Int) × Int)} (i_f0 : I_f0 f_f0) (i_n0 : I_n0 f_n0) (i_q0 : I_q0 f_q0) : I_q0 (B_q0 n f_f0 f_n0 f_q0) := fun s b0_1_ b0_2_ =>
 Fw Tryz.func152 rfl fun h => G (Bd h fun r1 q1 h => Bd h fun r2 q2 h => Bd h fun r3 q3 h => Bd h fun r4 q4 h => Hd
 [(5, [orn ((c_s0 _).of q1) []]), (8, [orn ((c_s0 _).of q2) []]), (11, [orn (c_do0.of q3) []]), (12, [.val (encL 1 e_str ([([102, 111, 114, 32] : List UInt8), s.Name, ([32, 61, 32] : List UInt8), r1, ([32, 116, 111, 32] : List UInt8), r2, ([32, 109, 97, 120, 32] : List UInt8), r3, ([32, 123] : List UInt8)] : List (List UInt8)))]), (13, [orc (c_j0.of q4) []])]
 (A_ (c_j0.of q4) (A_ (vimp_litm (k := 1) (e := e_str) ([([102, 111, 114, 32] : List UInt8), s.Name, ([32, 61, 32] : List UInt8), r1, ([32, 116, 111, 32] : List UInt8), r2, ([32, 109, 97, 120, 32] : List UInt8), r3, ([32, 123] : List UInt8)] : List (List UInt8))) (A_ (c_do0.of q3) (A_ ((c_s0 _).of q2) (A_ ((c_s0 _).of q1) Z_)))))
 (Bd h fun r5 q5 h => Gw ((i_f0 _ _ _).of q5) (Bd h fun r6 q6 h => Ro
 [.val (encL 1 e_str ([([125] : List UInt8)] : List (List UInt8))), orc (c_j0.of q6) []]
 (A_ (c_j0.of q6) (A_ (vimp_litm (k := 1) (e := e_str) ([([125] : List UInt8)] : List (List UInt8))) Z_)) (Pm h))))
theorem cS_f0 (n : Nat) : I_f0 (F_f0 n) ∧ I_n0 (F_n0 n) ∧ I_q0 (F_q0 n) := by
 induction n with
 | zero => exact ⟨fun l b0_1_ b0_2_ => ⟨fun h => no_ h⟩, fun s b0_1_ b0_2_ => ⟨fun h => no_ h⟩, fun s b0_1_ b0_2_ => ⟨fun h => no_ h⟩⟩
 | succ m ih => obtain ⟨i0, i1, i2⟩ := ih; exact ⟨cB_f0 (n := m) i0 i1 i2, cB_n0 (n := m) i0 i1 i2, cB_q0 (n := m) i0 i1 i2⟩
theorem c_f0 {n : Nat} : I_f0 (F_f0 n) := (cS_f0 n).1
theorem c_ct0 {n : Nat} {b0_1_ : List Int} {b0_2_ : Int} {r : (List UInt8) × (List Int)} (h : F_ct0 n b0_1_ b0_2_ = some r) : saysOf Tryz.prog 60 [.ptr 0 0] [] [[⟨.sptr 0 0 90, none⟩, ⟨.v (encL 1 e_u8 b0_1_), (some 5)⟩, eI b0_2_]] (oR (vS r.1)) [[⟨.sptr 0 0 90, none⟩, eL 1 e_u8 r.2, eI b0_2_]] := by
  unfold F_ct0 at h
  obtain ⟨g, h⟩ := ass_some h
  obtain rfl := Option.some.inj h
  exact says_builderString (T5 := 5) Tryz.func60 rfl (by kernel_rfl) cellsByte bstr_nil bstr_room bstr_noroom bstr_some (bld_get g) (bld_len g)
theorem c_bg0 {n : Nat} {p : Proc} : Con 27 [.v (.agg [.str p.Name, encL 2 enc_Param p.Params, encL 13 enc_Stmt p.Body])] [] [] (F_bg0 n p) (fun r => oR (vS r)) (fun _ => []) :=
 Fw Tryz.func27 rfl fun h => G (Bd h fun r1 q1 h => Sq (Gn (c_bw0.of q1) (C h (fun h => G (Rt (tr_ (Pr h)))) fun h => Sk (tn_ (G (K1
 (fun v19 => ⟨[(1, eP 0 0), (3, ⟨.v (encL 1 e_str v19), (some 9)⟩)], [(0, [eS p.Name, eL 2 enc_Param p.Params, eL 13 enc_Stmt p.Body])], 1⟩) (F_bg0_j1 n p) (G (Bk
 (L2
 (fun v10 v11 => ⟨[(1, eP 0 0), (3, ⟨.v (encL 1 e_str v11), (some 9)⟩), (11, eL 2 enc_Param p.Params), (12, eI ((p.Params.length : Nat) : Int)), (13, eI v10)], [(0, [eS p.Name, eL 2 enc_Param p.Params, eL 13 enc_Stmt p.Body])], 1⟩)
 (F_bg0_l2 n p) (F_bg0_b2 n p) h fun k2 v10 v11 h => G (Sq (C h (fun h => Sk (tn_ (Sq (Bk (As h fun g12 h => Ho [.raw] (A_ g12 Z_) (As h fun g13 h => Bd
 h fun r14 q14 h => As h fun g15 h => As h fun g16 h => Rd
 [(6, [orn (c_dd0.of q14) []]), (8, [.val (encL 1 e_str ([((((p.Params.getD (v10).toNat default).Name) ++ ([58, 32] : List UInt8)) ++ r14)] : List (List UInt8)))]), (9, [.val (encL 1 e_str (v11 ++ ([((((p.Params.getD (v10).toNat default).Name) ++ ([58, 32] : List UInt8)) ++ r14)] : List (List UInt8))))])]
 (A_ (vimp_app (k := 1) (e := e_str) v11 ([((((p.Params.getD (v10).toNat default).Name) ++ ([58, 32] : List UInt8)) ++ r14)] : List (List UInt8))) (A_ g16 (A_ (vimp_litm (k := 1) (e := e_str) ([((((p.Params.getD (v10).toNat default).Name) ++ ([58, 32] : List UInt8)) ++ r14)] : List (List UInt8))) (A_ g15 (A_ (c_dd0.of q14) (A_ g13 Z_))))))
 (bn_ (tn_ (Rk (E2 h)))))))))) fun h => Ex (tx_ (tx_ (bh_ (E1 h))))))))) fun v19 h => Ho [.own] Z_ (Bd h fun r20 q20 h => Bd h fun r21 q21 h => Hd
 [(4, [orn (c_ec0 q20) []]), (5, [.val (encL 1 e_str ([([112, 114, 111, 99, 32] : List UInt8), p.Name, ([40] : List UInt8), r20, ([41, 32, 123] : List UInt8)] : List (List UInt8)))]), (6, [orc (c_j0.of q21) []])]
 (A_ (c_j0.of q21) (A_ (vimp_litm (k := 1) (e := e_str) ([([112, 114, 111, 99, 32] : List UInt8), p.Name, ([40] : List UInt8), r20, ([41, 32, 123] : List UInt8)] : List (List UInt8))) (A_ (c_ec0 q20) Z_)))
 (Bd h fun r22 q22 h => Gw ((c_f0 _ _ _).of q22) (Bd h fun r23 q23 h => Ho
 [.val (encL 1 e_str ([([125] : List UInt8)] : List (List UInt8))), orc (c_j0.of q23) []]
 (A_ (c_j0.of q23) (A_ (vimp_litm (k := 1) (e := e_str) ([([125] : List UInt8)] : List (List UInt8))) Z_)) (Bd h fun r24 q24 h => Gw
 (c_ct0 q24) (Rt (Pr h))))))))))))
abbrev I_z0 (f : Expr → Expr → Option Bool) : Prop := ∀ (a : Expr) (b : Expr), Con 113 [.v (.agg [.int .i64 a.Op, .int .i64 a.N, .str a.S, encL 4 enc_Expr a.Args]), .v (.agg [.int .i64 b.Op, .int .i64 b.N, .str b.S, encL 4 enc_Expr b.Args])] [] [] (f a b) (fun r => oR (vB r)) (fun _ => [])
abbrev I_o0 (f : (List Expr) → (List Expr) → Option Bool) : Prop := ∀ (s1 : List Expr) (s2 : List Expr), Con 155 [vL 4 enc_Expr s1, vL 4 enc_Expr s2, .fn 113 []] [] [] (f s1 s2) (fun r => oR (vB r)) (fun _ => [])
theorem cB_z0 {n : Nat} {f_z0 : Expr → Expr → Option Bool} {f_o0 : (List Expr) → (List Expr) → Option Bool} (i_z0 : I_z0 f_z0) (i_o0 : I_o0 f_o0) : I_z0 (B_z0 n f_z0 f_o0) := fun a b =>
 Fw Tryz.func113 rfl fun h => G (Bd h fun r1 q1 h => Hv (fun c1 => (i_o0 _ _).of (cond_t c1 q1)) fun p1 => Ho [orn1 p1] (A_ p1 Z_) (Rt (Pr h)))
theorem cB_o0 {n : Nat} {f_z0 : Expr → Expr → Option Bool} {f_o0 : (List Expr) → (List Expr) → Option Bool} (i_z0 : I_z0 f_z0) (i_o0 : I_o0 f_o0) : I_o0 (B_o0 n f_z0 f_o0) := fun s1 s2 =>
 Fw Tryz.func155 rfl fun h => G (Sq (G (C h (fun h => G (Rt (tr_ (Pr h)))) fun h => Sk (tn_ (K0 ⟨[], [], 0⟩
 (F_o0_j1 n f_z0 f_o0) (G (Bk (L1
 (fun v6 => ⟨[(1, eL 4 enc_Expr s2), (2, ⟨.fn 113 [], none⟩), (15, eL 4 enc_Expr s1), (16, eI ((s1.length : Nat) : Int)), (17, eI v6)], [], 0⟩)
 (F_o0_l2 n f_z0 f_o0 s2 s1) (F_o0_b2 n f_z0 f_o0 s2 s1) h fun k2 v6 h =>
 G (Sq (C h (fun h => Sk (tn_ (Sq (Bk (As h fun g7 h => Ho [orv (enc_vimp_Expr (s1.getD (v6).toNat default))] (A_ (enc_vimp_Expr (s1.getD (v6).toNat default)) (A_ g7 Z_))
 (As h fun g8 h => Ho [orv (enc_vimp_Expr (s2.getD (v6).toNat default))] (A_ (enc_vimp_Expr (s2.getD (v6).toNat default)) (A_ g8 Z_)) (Bd h fun r9 q9 h => Gn
 ((i_z0 _ _).of q9) (C h (fun h => G (Rt (br_ (tr_ (tr_ (br_ (tr_ (Pr h)))))))) fun h => Sk (bn_ (tn_ (Rk (E1 h)))))))))))) fun h => Ex (tx_ (tx_ (bh_ (E0
 h))))))))) fun h => G (Rt (Pr h)))))))
theorem cS_z0 (n : Nat) : I_z0 (F_z0 n) ∧ I_o0 (F_o0 n) := by
 induction n with
 | zero => exact ⟨fun a b => ⟨fun h => no_ h⟩, fun s1 s2 => ⟨fun h => no_ h⟩⟩
 | succ m ih => obtain ⟨i0, i1⟩ := ih; exact ⟨cB_z0 (n := m) i0 i1, cB_o0 (n := m) i0 i1⟩
theorem c_z0 {n : Nat} : I_z0 (F_z0 n) := (cS_z0 n).1
abbrev I_i0 (f : (List Stmt) → (List Stmt) → Option Bool) : Prop := ∀ (s1 : List Stmt) (s2 : List Stmt), Con 62 [vL 13 enc_Stmt s1, vL 13 enc_Stmt s2, .fn 63 []] [] [] (f s1 s2) (fun r => oR (vB r)) (fun _ => [])
abbrev I_aj0 (f : Stmt → Stmt → Option Bool) : Prop := ∀ (a : Stmt) (b : Stmt), Con 63 [.v (.agg [.int .i64 a.Op, .str a.Name, .int .i64 a.Max, .int .i64 a.A.Op, .int .i64 a.A.N, .str a.A.S, encL 4 enc_Expr a.A.Args, .int .i64 a.B.Op, .int .i64 a.B.N, .str a.B.S, encL 4 enc_Expr a.B.Args, encL 13 enc_Stmt a.Body, encL 13 enc_Stmt a.Else]), .v (.agg [.int .i64 b.Op, .str b.Name, .int .i64 b.Max, .int .i64 b.A.Op, .int .i64 b.A.N, .str b.A.S, encL 4 enc_Expr b.A.Args, .int .i64 b.B.Op, .int .i64 b.B.N, .str b.B.S, encL 4 enc_Expr b.B.Args, encL 13 enc_Stmt b.Body, encL 13 enc_Stmt b.Else])] [] [] (f a b) (fun r => oR (vB r)) (fun _ => [])
theorem cB_i0 {n : Nat} {f_i0 : (List Stmt) → (List Stmt) → Option Bool} {f_aj0 : Stmt → Stmt → Option Bool} (i_i0 : I_i0 f_i0) (i_aj0 : I_aj0 f_aj0) : I_i0 (B_i0 n f_i0 f_aj0) := fun s1 s2 =>
 Fw Tryz.func62 rfl fun h => G (Sq (G (C h (fun h => G (Rt (tr_ (Pr h)))) fun h => Sk (tn_ (K0 ⟨[], [], 0⟩
 (F_i0_j1 n f_i0 f_aj0) (G (Bk (L1
 (fun v6 => ⟨[(1, eL 13 enc_Stmt s2), (2, ⟨.fn 63 [], none⟩), (15, eL 13 enc_Stmt s1), (16, eI ((s1.length : Nat) : Int)), (17, eI v6)], [], 0⟩)
 (F_i0_l2 n f_i0 f_aj0 s2 s1) (F_i0_b2 n f_i0 f_aj0 s2 s1) h fun k2 v6 h =>
 G (Sq (C h (fun h => Sk (tn_ (Sq (Bk (As h fun g7 h => Ho [orv (enc_vimp_Stmt (s1.getD (v6).toNat default))] (A_ (enc_vimp_Stmt (s1.getD (v6).toNat default)) (A_ g7 Z_))
 (As h fun g8 h => Ho [orv (enc_vimp_Stmt (s2.getD (v6).toNat default))] (A_ (enc_vimp_Stmt (s2.getD (v6).toNat default)) (A_ g8 Z_)) (Bd h fun r9 q9 h => Gn
 ((i_aj0 _ _).of q9) (C h (fun h => G (Rt (br_ (tr_ (tr_ (br_ (tr_ (Pr h)))))))) fun h => Sk (bn_ (tn_ (Rk (E1 h)))))))))))) fun h => Ex (tx_ (tx_ (bh_ (E0
 h))))))))) fun h => G (Rt (Pr h)))))))
theorem cB_aj0 {n : Nat} {f_i0 : (List Stmt) → (List Stmt) → Option Bool} {f_aj0 : Stmt → Stmt → Option Bool} (i_i0 : I_i0 f_i0) (i_aj0 : I_aj0 f_aj0) : I_aj0 (B_aj0 n f_i0 f_aj0) := fun a b =>
 Fw Tryz.func63 rfl fun h => G (Bd h fun r1 q1 h => Hv (fun c1 => (c_z0 _ _).of (cond_t c1 q1)) fun p1 => Bd h fun r2 q2 h => Hv
 (fun c1 => (c_z0 _ _).of (cond_t c1 q2)) fun p2 => Bd h fun r3 q3 h => Hv (fun c1 => (i_i0 _ _).of (cond_t c1 q3)) fun p3 => Bd h fun r4 q4
 h => Hv (fun c1 => (i_i0 _ _).of (cond_t c1 q4)) fun p4 => Ho [orn1 p1, orn1 p2, orn1 p3, orn1 p4] (A_ p4 (A_ p3 (A_ p2 (A_ p1 Z_)))) (Rt (Pr h)))
theorem cS_i0 (n : Nat) : I_i0 (F_i0 n) ∧ I_aj0 (F_aj0 n) := by
 induction n with
 | zero => exact ⟨fun s1 s2 => ⟨fun h => no_ h⟩, fun a b => ⟨fun h => no_ h⟩⟩
 | succ m ih => obtain ⟨i0, i1⟩ := ih; exact ⟨cB_i0 (n := m) i0 i1, cB_aj0 (n := m) i0 i1⟩
theorem c_i0 {n : Nat} : I_i0 (F_i0 n) := (cS_i0 n).1
theorem c_at0 {n : Nat} {s1 : List Param} {s2 : List Param} : Con 61 [vL 2 enc_Param s1, vL 2 enc_Param s2] [] [] (F_at0 n s1 s2) (fun r => oR (vB r)) (fun _ => []) :=
 Fw Tryz.func61 rfl fun h => G (Sq (G (C h (fun h => G (Rt (tr_ (Pr h)))) fun h => Sk (tn_ (K0 ⟨[], [], 0⟩ (F_at0_j1 n) (G (Bk (L1
 (fun v5 => ⟨[(0, eL 2 enc_Param s1), (1, eL 2 enc_Param s2), (12, eI ((s1.length : Nat) : Int)), (13, eI v5)], [], 0⟩) (F_at0_l2 n s1 s2)
 (F_at0_b2 n s1 s2) h fun k2 v5 h => G (Sq (C h (fun h => Sk (tn_ (Sq (Bk (G (As h fun g6 h => As h fun g7 h => Hd [(2, [.raw]), (6, [.raw])]
 (A_ g7 (A_ g6 Z_)) (C h (fun h => G (Rt (br_ (tr_ (tr_ (br_ (tr_ (Pr h)))))))) fun h => Sk (bn_ (tn_ (Rk (E1 h))))))))))) fun h => Ex (tx_ (tx_ (bh_ (E0 h))))))))) fun h
 => G (Rt (Pr h)))))))
theorem c_ej0 {n : Nat} {a : Proc} {b : Proc} : Con 28 [.v (.agg [.str a.Name, encL 2 enc_Param a.Params, encL 13 enc_Stmt a.Body]), .v (.agg [.str b.Name, encL 2 enc_Param b.Params, encL 13 enc_Stmt b.Body])] [] [] (F_ej0 n a b) (fun r => oR (vB r)) (fun _ => []) :=
 Fw Tryz.func28 rfl fun h => G (Bd h fun r1 q1 h => Hv (fun c1 => c_at0.of (cond_t c1 q1)) fun p1 => Bd h fun r2 q2 h => Hv
 (fun c1 => (c_i0 _ _).of (cond_t c1 q2)) fun p2 => Ho [orn1 p1, orn1 p2] (A_ p2 (A_ p1 Z_)) (Rt (Pr h)))
theorem c_ek0 {n : Nat} {t : Token} : Con 66 [.v (.agg [.int .i64 t.Kind, .str t.Text, .int .i64 t.N, .int .i64 t.Line])] [] [] (F_ek0 n t) (fun r => oR (vB r)) (fun _ => []) :=
 Fw Tryz.func66 rfl fun h => G (Sq (G (Bk (G (C h (fun h => Bd h fun r2 q2 h => Gn (c_cb0.of q2) (Rt (br_ (tr_ (Pr h))))) fun h => G (C h (fun h => Bd h fun r4 q4
 h => Gn (c_ac0.of q4) (Rt (br_ (tr_ (Pr h))))) fun h => G (C h (fun h => G (Rt (br_ (tr_ (Pr h))))) fun h => G (C h (fun h => Bd h fun r7 q7 h => Hv
 (fun c1 => c_bm0.of (cond_t c1 q7)) fun p7 => Ho [orn1 p7] (A_ p7 Z_) (Rt (br_ (tr_ (Pr h))))) fun h => G (C h (fun h => Bd h fun r9 q9 h => Hv
 (fun c1 => c_bs0.of (cond_t c1 q9)) fun p9 => Hd [(6, [orn1 p9])] (A_ p9 Z_) (Rt (br_ (tr_ (Pr h))))) fun h => Sk (bn_ (tn_ (G (Rt (Pr h))))))))))))))
theorem c_ds0 {n : Nat} {b0_1_ : List Int} : Con 71 [.ptr 0 0] [] [[⟨.sptr 0 0 90, none⟩, ⟨.v (encL 1 e_u8 b0_1_), (some 5)⟩]] (F_ds0 n b0_1_) (fun r => oR (vI r)) (fun _ => [[⟨.sptr 0 0 90, none⟩, ⟨.v (encL 1 e_u8 b0_1_), (some 5)⟩]]) :=
 Fw Tryz.func71 rfl fun h => G (G (Rt (Pr h)))
theorem c_ax0 {n : Nat} {s : List UInt8} {b0_1_ : List Int} : Con 68 [.ptr 0 0, vS s] [] [[⟨.sptr 0 0 90, none⟩, ⟨.v (encL 1 e_u8 b0_1_), (some 5)⟩]] (F_ax0 n s b0_1_) (fun r => oR (.tup [vI r.1, .v (.nili)])) (fun r => [[⟨.sptr 0 0 90, none⟩, ⟨.v (encL 1 e_u8 r.2), (some 5)⟩]]) :=
 Fw Tryz.func68 rfl fun h => G (Bd h fun r1 q1 h => Gn (c_bj0 q1) (As h fun g2 h => Ho
 [.own, .val (encL 1 e_u8 (b0_1_ ++ s.map fun b => (b.toNat : Int)))] (A_ (vimp_app_str b0_1_ s) (A_ g2 Z_)) (G (Rt (Pr h)))))
theorem c_ah0 {n : Nat} {l : List Token} : Con 30 [vL 4 enc_Token l] [] [] (F_ah0 n l) (fun r => oR (.tup [vS r.1, vI r.2])) (fun _ => []) :=
 Fw Tryz.func30 rfl fun h => G (K0 ⟨[(0, eL 4 enc_Token l)], [], 0⟩ (F_ah0_j1 n l) (G (Bk (L1
 (fun v4 => ⟨[(0, eL 4 enc_Token l), (11, eL 4 enc_Token l), (12, eI ((l.length : Nat) : Int)), (13, eI v4)], [], 0⟩) (F_ah0_l7 n l) (F_ah0_b7 n l) h fun k7
 v4 h => G (Sq (C h (fun h => Sk (tn_ (Sq (Bk (As h fun g5 h => Ho [.raw] (A_ g5 Z_) (Bd h fun r6 q6 h => Gn (c_ek0.of q6) (C h (fun h => G (Rt (br_ (tr_ (tr_ (br_
 (tr_ (Pr h)))))))) fun h => Sk (bn_ (tn_ (Rk (E1 h))))))))))) fun h => Ex (tx_ (tx_ (bh_ (E0 h))))))))) fun h => G (K1
 (fun v36 => ⟨[(6, eP 0 0)], [(0, [⟨.sptr 0 0 90, none⟩, ⟨.v (encL 1 e_u8 v36), (some 5)⟩])], 1⟩) (F_ah0_j2 n) (G (Bk (L2
 (fun v21 v22 => ⟨[(6, eP 0 0), (21, eL 4 enc_Token l), (22, eI ((l.length : Nat) : Int)), (23, eI v22)], [(0, [⟨.sptr 0 0 90, none⟩, ⟨.v (encL 1 e_u8 v21), (some 5)⟩])], 1⟩)
 (F_ah0_l3 n l) (F_ah0_b3 n l) h fun k3 v21 v22 h => G (Sq (C h (fun h => Sk (tn_ (K1
 (fun v33 => ⟨[(6, eP 0 0), (21, eL 4 enc_Token l), (22, eI ((l.length : Nat) : Int)), (23, eI v22)], [(0, [⟨.sptr 0 0 90, none⟩, ⟨.v (encL 1 e_u8 v33), (some 5)⟩])], 1⟩)
 (F_ah0_j4 n k3 l v22) (Bk (As h fun g23 h => Ho [.raw] (A_ g23 Z_) (K1
 (fun v25 => ⟨[(6, eP 0 0), (8, eP 1 0), (21, eL 4 enc_Token l), (22, eI ((l.length : Nat) : Int)), (23, eI v22)], [(0, [⟨.sptr 0 0 90, none⟩, ⟨.v (encL 1 e_u8 v25), (some 5)⟩]), (1, [eI ((l.getD (v22).toNat default).Kind), eS ((l.getD (v22).toNat default).Text), eI ((l.getD (v22).toNat default).N), eI ((l.getD (v22).toNat default).Line)])], 2⟩)
 (F_ah0_j5 n k3 l v22) (G (C h (fun h => Bd h fun r24 q24 h => Rw (c_ak0.of q24) (E1 h)) fun h => Sk (E1 h))) fun v25 h => K1
 (fun v31 => ⟨[(6, eP 0 0), (21, eL 4 enc_Token l), (22, eI ((l.length : Nat) : Int)), (23, eI v22)], [(0, [⟨.sptr 0 0 90, none⟩, ⟨.v (encL 1 e_u8 v31), (some 5)⟩])], 1⟩)
 (F_ah0_j6 n k3 l v22) (G (Bk (G (C h (fun h => Bd h fun r26 q26 h => Bd h fun r27 q27 h => Ro
 [orn (c_eb0.of q26) [], orc (c_ax0.of q27) []] (A_ (c_ax0.of q27) (A_ (c_eb0.of q26) Z_)) (bn_ (E1 h)))
 fun h => G (C h (fun h => Bd h fun r28 q28 h => Gn (c_av0.of q28) (Bd h fun r29 q29 h => Rw (c_ax0.of q29) (bn_ (E1 h)))) fun h => Bd h
 fun r30 q30 h => Rw (c_ax0.of q30) (bn_ (E1 h))))))) fun v31 h => Bd h fun r32 q32 h => Gn (c_ds0.of q32) (C h (fun h => G (Rt
 (br_ (tr_ (tr_ (br_ (tr_ (Pr h)))))))) fun h => Sk (bn_ (E1 h)))))) fun v33 h => Rk (E2 h)))) fun h => Ex (tx_ (tx_ (bh_ (E1 h))))))))) fun v36 h => Bd h fun r37 q37 h =>
 Gw (c_bo0 q37) (Rt (Pr h))))
theorem c_dy0 {n : Nat} {src : List UInt8} : Con 9 [vS src] [] [] (F_dy0 n src) (fun r => oR (vB r)) (fun _ => []) :=
 Fw Tryz.func9 rfl fun h => G (Sq (G (C h (fun h => Bd h fun r2 q2 h => Gn (c_db0.of q2) (Rt (tr_ (Pr h)))) fun h => Sk (tn_ (Bd h fun r3 q3 h => Gn
 (c_p0.of q3) (Bd h fun r4 q4 h => Gn (c_am0.of q4) (Sq (G (C h (fun h => Bd h fun r6 q6 h => Hv (fun c1 => c_db0.of (cond_t c1 q6)) fun p6 =>
 Ho [orn1 p6] (A_ p6 Z_) (Rt (tr_ (Pr h)))) fun h => Sk (tn_ (Bd h fun r7 q7 h => Gn (c_ah0.of q7) (Sq (G (C h (fun h => G (Rt (tr_ (Pr h)))) fun h => Sk (tn_ (Bd h
 fun r9 q9 h => Gn (c_am0.of q9) (Bd h fun r10 q10 h => Sq (Gn (c_ej0.of q10) (C h (fun h => G (Rt (tr_ (Pr h)))) fun h => Sk (tn_ (Sq (G (C h (fun h => Bd h
 fun r13 q13 h => Gn (c_db0.of q13) (Rt (tr_ (Pr h)))) fun h => Sk (tn_ (Bd h fun r14 q14 h => Bd h fun r15 q15 h => Ho
 [orn (c_bg0.of q14) [], orn (c_am0.of q15) []] (A_ (c_am0.of q15) (A_ (c_bg0.of q14) Z_)) (Bd h fun r16 q16 h => Bd h fun r17 q17 h =>
 Hv (fun c1 => c_ej0.of (cond_t c1 q17)) fun p17 => Bd h fun r18 q18 h => Hv (fun c1 => c_db0.of (cond_t c1 q18)) fun p18 => Ho
 [orn (c_bw0.of q16) [], orn1 p17, orn1 p18] (A_ p18 (A_ p17 (A_ (c_bw0.of q16) Z_))) (Rt (Pr h))))))))))))))))))))))))))))
end Go.Ab.Y
