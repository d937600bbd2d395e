/- What each function computes, over plain data, with fuel. Printed by a program. -/
import Derived.Test.YtenhknjlgfakfaaGreatDoorHand
/- Printed by gen.py. -/
namespace Go.Ab.Y
open Go Go.Ab Go.Proofs
set_option linter.unusedVariables false
def F_er0 (n : Nat) (op : Int) : Option Int :=
 bif (bif (decide (op < 1)) then true else (decide (27 < op))) then (
 some (-1))
 else (
 bif (bif (decide (op ≤ 3)) then true else (decide (25 ≤ op))) then (
 some 0)
 else (
 bif (bif (bif (decide (op = 9)) then true else (decide (op = 18))) then true else (decide (20 ≤ op))) then (
 some 1)
 else (
 some 2)))
def F_ci0_j1 (n : Nat) (s : List UInt8) : Option Bool :=
 some (decide (((s.length : Nat) : Int) ≤ 64))
def F_ci0_b2 (n : Nat) (s : List UInt8) (k2 : Int → Option Bool) (v4 : Int) : Option Bool :=
 bif (decide (v4 < ((s.length : Nat) : Int))) then (
 ass (inB v4 s.length) <|
 ass ((decide ((((s.getD (v4).toNat 0).toNat : Nat) : Int) < 32)) || inB v4 s.length) <|
 bif (bif (decide ((((s.getD (v4).toNat 0).toNat : Nat) : Int) < 32)) then true else (decide (126 < (((s.getD (v4).toNat 0).toNat : Nat) : Int)))) then (
 some false)
 else (
 k2 (IntKind.i64.wrap (v4 + 1))))
 else (
 F_ci0_j1 n s)
def F_ci0_l2 (n : Nat) (s : List UInt8) : Nat → Int → Option Bool
 | 0 => fun _ => none
 | m + 1 => F_ci0_b2 n s (F_ci0_l2 n s m)
def F_ci0 (n : Nat) (s : List UInt8) : Option Bool :=
 F_ci0_l2 n s n 0
def F_ac0_j1 (n : Nat) : Option Bool :=
 some false
def F_ac0_j2 (n : Nat) (v1 : Bool) : Option Bool :=
 bif v1 then (
 some true)
 else (
 F_ac0_j1 n)
def F_ac0 (n : Nat) (s : List UInt8) : Option Bool :=
 bif (decide (s = ([112, 114, 111, 99] : List UInt8))) then (
 F_ac0_j2 n (decide (s = ([112, 114, 111, 99] : List UInt8))))
 else (
 bif (decide (s = ([108, 101, 116] : List UInt8))) then (
 F_ac0_j2 n (decide (s = ([108, 101, 116] : List UInt8))))
 else (
 bif (decide (s = ([112, 117, 116] : List UInt8))) then (
 F_ac0_j2 n (decide (s = ([112, 117, 116] : List UInt8))))
 else (
 bif (decide (s = ([100, 101, 108, 101, 116, 101] : List UInt8))) then (
 F_ac0_j2 n (decide (s = ([100, 101, 108, 101, 116, 101] : List UInt8))))
 else (
 bif (decide (s = ([105, 102] : List UInt8))) then (
 F_ac0_j2 n (decide (s = ([105, 102] : List UInt8))))
 else (
 bif (decide (s = ([101, 108, 115, 101] : List UInt8))) then (
 F_ac0_j2 n (decide (s = ([101, 108, 115, 101] : List UInt8))))
 else (
 bif (decide (s = ([102, 111, 114] : List UInt8))) then (
 F_ac0_j2 n (decide (s = ([102, 111, 114] : List UInt8))))
 else (
 bif (decide (s = ([116, 111] : List UInt8))) then (
 F_ac0_j2 n (decide (s = ([116, 111] : List UInt8))))
 else (
 bif (decide (s = ([109, 97, 120] : List UInt8))) then (
 F_ac0_j2 n (decide (s = ([109, 97, 120] : List UInt8))))
 else (
 bif (decide (s = ([101, 109, 105, 116] : List UInt8))) then (
 F_ac0_j2 n (decide (s = ([101, 109, 105, 116] : List UInt8))))
 else (
 bif (decide (s = ([97, 98, 111, 114, 116] : List UInt8))) then (
 F_ac0_j2 n (decide (s = ([97, 98, 111, 114, 116] : List UInt8))))
 else (
 bif (decide (s = ([110, 111, 116] : List UInt8))) then (
 F_ac0_j2 n (decide (s = ([110, 111, 116] : List UInt8))))
 else (
 bif (decide (s = ([97, 110, 100] : List UInt8))) then (
 F_ac0_j2 n (decide (s = ([97, 110, 100] : List UInt8))))
 else (
 bif (decide (s = ([111, 114] : List UInt8))) then (
 F_ac0_j2 n (decide (s = ([111, 114] : List UInt8))))
 else (
 bif (decide (s = ([105, 110, 116] : List UInt8))) then (
 F_ac0_j2 n (decide (s = ([105, 110, 116] : List UInt8))))
 else (
 bif (decide (s = ([115, 116, 114] : List UInt8))) then (
 F_ac0_j2 n (decide (s = ([115, 116, 114] : List UInt8))))
 else (
 bif (decide (s = ([98, 111, 111, 108] : List UInt8))) then (
 F_ac0_j2 n (decide (s = ([98, 111, 111, 108] : List UInt8))))
 else (
 bif (decide (s = ([116, 101, 120, 116] : List UInt8))) then (
 F_ac0_j2 n (decide (s = ([116, 101, 120, 116] : List UInt8))))
 else (
 bif (decide (s = ([108, 101, 110] : List UInt8))) then (
 F_ac0_j2 n (decide (s = ([108, 101, 110] : List UInt8))))
 else (
 bif (decide (s = ([103, 101, 116, 105, 110, 116] : List UInt8))) then (
 F_ac0_j2 n (decide (s = ([103, 101, 116, 105, 110, 116] : List UInt8))))
 else (
 bif (decide (s = ([103, 101, 116, 115, 116, 114] : List UInt8))) then (
 F_ac0_j2 n (decide (s = ([103, 101, 116, 115, 116, 114] : List UInt8))))
 else (
 bif (decide (s = ([104, 97, 115] : List UInt8))) then (
 F_ac0_j2 n (decide (s = ([104, 97, 115] : List UInt8))))
 else (
 bif (decide (s = ([110, 111, 119] : List UInt8))) then (
 F_ac0_j2 n (decide (s = ([110, 111, 119] : List UInt8))))
 else (
 bif (decide (s = ([114, 97, 110, 100, 111, 109] : List UInt8))) then (
 F_ac0_j2 n (decide (s = ([114, 97, 110, 100, 111, 109] : List UInt8))))
 else (
 F_ac0_j2 n (decide (s = ([110, 111, 100, 101] : List UInt8)))))))))))))))))))))))))))
def F_dj0 (n : Nat) (c : Int) : Option Bool :=
 some (bif (decide (97 ≤ c)) then (decide (c ≤ 122)) else false)
def F_cb0 (n : Nat) (s : List UInt8) : Option Bool :=
 ass (!(bif (!(decide (s = ([] : List UInt8)))) then (decide (((s.length : Nat) : Int) ≤ 16)) else false) || inB 0 s.length) <|
 Option.bind (bif (bif (!(decide (s = ([] : List UInt8)))) then (decide (((s.length : Nat) : Int) ≤ 16)) else false) then F_dj0 n (IntKind.i32.wrap (((s.getD 0 0).toNat : Nat) : Int)) else some default) fun r2 =>
 Option.bind (bif (bif (bif (!(decide (s = ([] : List UInt8)))) then (decide (((s.length : Nat) : Int) ≤ 16)) else false) then r2 else false) then F_ea0 n s else some default) fun r3 =>
 Option.bind (bif (bif (bif (bif (!(decide (s = ([] : List UInt8)))) then (decide (((s.length : Nat) : Int) ≤ 16)) else false) then r2 else false) then (decide (r3 = ((s.length : Nat) : Int))) else false) then F_ac0 n s else some default) fun r4 =>
 some (bif (bif (bif (bif (!(decide (s = ([] : List UInt8)))) then (decide (((s.length : Nat) : Int) ≤ 16)) else false) then r2 else false) then (decide (r3 = ((s.length : Nat) : Int))) else false) then (!r4) else false)
def F_eu0 (n : Nat) (e : Expr) (depth : Int) : Option Int :=
 Option.bind (F_er0 n e.Op) fun r1 =>
 bif (bif (bif (decide (r1 < 0)) then true else (bif (!decide (e.Op = 1)) then (!decide (e.N = 0)) else false)) then true else (bif (bif (!decide (e.Op = 2)) then (!decide (e.Op = 3)) else false) then (!(decide (e.S = ([] : List UInt8)))) else false)) then (
 some 1)
 else (
 Option.bind (bif (decide (e.Op = 3)) then F_cb0 n e.S else some default) fun r3 =>
 bif (bif (decide (e.Op = 3)) then (!r3) else false) then (
 some 7)
 else (
 Option.bind (bif ((!(bif (decide (e.Op = 1)) then (decide (e.N < 0)) else false)) && (decide (e.Op = 2))) then F_ci0 n e.S else some default) fun r5 =>
 bif (bif (bif (bif (decide (e.Op = 1)) then (decide (e.N < 0)) else false) then true else (bif (decide (e.Op = 2)) then (!r5) else false)) then true else (!decide (((e.Args.length : Nat) : Int) = r1))) then (
 some 1)
 else (
 bif (decide (12 < depth)) then (
 some 2)
 else (
 some 0))))
def F_ap0_j1 (n : Nat) (f_ap0 : Expr → Int → Option Int) : Option Int :=
 some 0
def F_ap0_b2 (n : Nat) (f_ap0 : Expr → Int → Option Int) (depth : Int) (e : Expr) (k2 : Int → Option Int) (v6 : Int) : Option Int :=
 bif (decide (v6 < ((e.Args.length : Nat) : Int))) then (
 ass (inB v6 e.Args.length) <|
 Option.bind (f_ap0 (e.Args.getD (v6).toNat default) (IntKind.i64.wrap (depth + 1))) fun r8 =>
 bif (!decide (r8 = 0)) then (
 some r8)
 else (
 k2 (IntKind.i64.wrap (v6 + 1))))
 else (
 F_ap0_j1 n f_ap0)
def F_ap0_l2 (n : Nat) (f_ap0 : Expr → Int → Option Int) (depth : Int) (e : Expr) : Nat → Int → Option Int
 | 0 => fun _ => none
 | m + 1 => F_ap0_b2 n f_ap0 depth e (F_ap0_l2 n f_ap0 depth e m)
def B_ap0 (n : Nat) (f_ap0 : Expr → Int → Option Int) (e : Expr) (depth : Int) : Option Int :=
 Option.bind (F_eu0 n e depth) fun r1 =>
 bif (!decide (r1 = 0)) then (
 some r1)
 else (
 F_ap0_l2 n f_ap0 depth e n 0)
def F_ap0 : Nat → Expr → Int → Option Int
 | 0 => fun _ _ => none
 | m + 1 => B_ap0 m (F_ap0 m)
def F_cx0 (n : Nat) (e : Expr) : Option Int :=
 Option.bind (F_ap0 n e 1) fun r1 =>
 some r1
def F_as0_j1 (n : Nat) : Option ((List UInt8) × Int × Int) :=
 some (([] : List UInt8), 0, 6)
def F_as0_j3 (n : Nat) (k2 : (List Int) → Int → Option ((List UInt8) × Int × Int)) (s : List UInt8) (v19 : List Int) (v20 : Int) : Option ((List UInt8) × Int × Int) :=
 k2 v19 (IntKind.i64.wrap (v20 + 1))
def F_as0_j4 (n : Nat) (k2 : (List Int) → Int → Option ((List UInt8) × Int × Int)) (s : List UInt8) (v11 : List Int) (v16 : Int) (v17 : Int) : Option ((List UInt8) × Int × Int) :=
 bif (bif (decide (v17 < 32)) then true else (decide (126 < v17))) then (
 some (([] : List UInt8), 0, 5))
 else (
 bif (decide (((v11.length : Nat) : Int) = 64)) then (
 some (([] : List UInt8), 0, 2))
 else (
 ass (room (v11.length + ([v17] : List Int).length) 1) <|
 F_as0_j3 n k2 s (v11 ++ ([v17] : List Int)) v16))
def F_as0_b2 (n : Nat) (s : List UInt8) (k2 : (List Int) → Int → Option ((List UInt8) × Int × Int)) (v11 : List Int) (v12 : Int) : Option ((List UInt8) × Int × Int) :=
 bif (decide (v12 < ((s.length : Nat) : Int))) then (
 ass (inB v12 s.length) <|
 bif (decide ((((s.getD (v12).toNat 0).toNat : Nat) : Int) = 34)) then (
 ass (bytesOk v11) <|
 some ((toB v11), (IntKind.i64.wrap (v12 + 1)), 0))
 else (
 bif (decide ((((s.getD (v12).toNat 0).toNat : Nat) : Int) = 92)) then (
 bif (decide ((IntKind.i64.wrap (v12 + 1)) = ((s.length : Nat) : Int))) then (
 F_as0_j1 n)
 else (
 ass (inB (IntKind.i64.wrap (v12 + 1)) s.length) <|
 bif (bif (!decide ((((s.getD ((IntKind.i64.wrap (v12 + 1))).toNat 0).toNat : Nat) : Int) = 34)) then (!decide ((((s.getD ((IntKind.i64.wrap (v12 + 1))).toNat 0).toNat : Nat) : Int) = 92)) else false) then (
 some (([] : List UInt8), 0, 5))
 else (
 F_as0_j4 n k2 s v11 (IntKind.i64.wrap (v12 + 1)) (((s.getD ((IntKind.i64.wrap (v12 + 1))).toNat 0).toNat : Nat) : Int))))
 else (
 F_as0_j4 n k2 s v11 v12 (((s.getD (v12).toNat 0).toNat : Nat) : Int))))
 else (
 F_as0_j1 n)
def F_as0_l2 (n : Nat) (s : List UInt8) : Nat → (List Int) → Int → Option ((List UInt8) × Int × Int)
 | 0 => fun _ _ => none
 | m + 1 => F_as0_b2 n s (F_as0_l2 n s m)
def F_as0 (n : Nat) (s : List UInt8) : Option ((List UInt8) × Int × Int) :=
 F_as0_l2 n s n ([] : List Int) 1
def F_dz0 (n : Nat) (s : List UInt8) (c : Int) : Option Int :=
 Option.bind (F_bx0 n s c) fun r1 =>
 some r1
def F_bs0_j1 (n : Nat) (s : List UInt8) : Option (List UInt8) :=
 ass (!(!(decide (s = ([] : List UInt8)))) || inB 0 s.length) <|
 Option.bind (bif (!(decide (s = ([] : List UInt8)))) then F_dz0 n ([40, 41, 123, 125, 44, 59, 58, 61, 60, 62, 43, 45, 42, 47, 37] : List UInt8) (((s.getD 0 0).toNat : Nat) : Int) else some default) fun r5 =>
 bif (bif (!(decide (s = ([] : List UInt8)))) then (decide (0 ≤ r5)) else false) then (
 ass (upB 1 s.length) <|
 some (s.take 1))
 else (
 some ([] : List UInt8))
def F_bs0_j2 (n : Nat) (s : List UInt8) (v2 : Bool) : Option (List UInt8) :=
 bif v2 then (
 ass (upB 2 s.length) <|
 some (s.take 2))
 else (
 F_bs0_j1 n s)
def F_bs0 (n : Nat) (s : List UInt8) : Option (List UInt8) :=
 bif (decide (2 ≤ ((s.length : Nat) : Int))) then (
 ass (upB 2 s.length) <|
 bif (decide ((s.take 2) = ([61, 61] : List UInt8))) then (
 F_bs0_j2 n s (decide ((s.take 2) = ([61, 61] : List UInt8))))
 else (
 bif (decide ((s.take 2) = ([33, 61] : List UInt8))) then (
 F_bs0_j2 n s (decide ((s.take 2) = ([33, 61] : List UInt8))))
 else (
 bif (decide ((s.take 2) = ([60, 61] : List UInt8))) then (
 F_bs0_j2 n s (decide ((s.take 2) = ([60, 61] : List UInt8))))
 else (
 bif (decide ((s.take 2) = ([62, 61] : List UInt8))) then (
 F_bs0_j2 n s (decide ((s.take 2) = ([62, 61] : List UInt8))))
 else (
 F_bs0_j2 n s (decide ((s.take 2) = ([43, 43] : List UInt8))))))))
 else (
 F_bs0_j1 n s)
def F_bh0_j2 (n : Nat) (s : List UInt8) (v3 : List UInt8) (v4 : Bool) (v10 : Int) : Option (Int × Int) :=
 ass ((bif (decide (v10 = 0)) then true else (decide (v10 < ((v3.length : Nat) : Int)))) || inB 0 v3.length) <|
 bif (bif (bif (decide (v10 = 0)) then true else (decide (v10 < ((v3.length : Nat) : Int)))) then true else (bif (decide ((((v3.getD 0 0).toNat : Nat) : Int) = 48)) then (bif (decide (1 < v10)) then true else v4) else false)) then (
 some (0, 5))
 else (
 Option.bind (F_cq0 n s 10 64) fun r13 =>
 Sm.on r13 (fun y14_0 =>
 bif (!true) then (
 some (0, 3))
 else (
 some (y14_0, 0))) (fun y14_1 =>
 bif (!false) then (
 some (0, 3))
 else (
 some (y14_1, 0))))
def F_bh0_b3 (n : Nat) (s : List UInt8) (v3 : List UInt8) (v4 : Bool) (k3 : Int → Option (Int × Int)) (v7 : Int) : Option (Int × Int) :=
 bif (decide (v7 < ((v3.length : Nat) : Int))) then (
 ass (inB v7 v3.length) <|
 bif (bif (decide (48 ≤ (((v3.getD (v7).toNat 0).toNat : Nat) : Int))) then (decide ((((v3.getD (v7).toNat 0).toNat : Nat) : Int) ≤ 57)) else false) then (
 k3 (IntKind.i64.wrap (v7 + 1)))
 else (
 F_bh0_j2 n s v3 v4 v7))
 else (
 F_bh0_j2 n s v3 v4 v7)
def F_bh0_l3 (n : Nat) (s : List UInt8) (v3 : List UInt8) (v4 : Bool) : Nat → Int → Option (Int × Int)
 | 0 => fun _ => none
 | m + 1 => F_bh0_b3 n s v3 v4 (F_bh0_l3 n s v3 v4 m)
def F_bh0_j1 (n : Nat) (s : List UInt8) (v3 : List UInt8) (v4 : Bool) : Option (Int × Int) :=
 F_bh0_l3 n s v3 v4 n 0
def F_bh0 (n : Nat) (s : List UInt8) : Option (Int × Int) :=
 ass (!(decide (0 < ((s.length : Nat) : Int))) || inB 0 s.length) <|
 bif (bif (decide (0 < ((s.length : Nat) : Int))) then (decide ((((s.getD 0 0).toNat : Nat) : Int) = 45)) else false) then (
 ass (upB 1 s.length) <|
 F_bh0_j1 n s (s.drop 1) true)
 else (
 F_bh0_j1 n s s false)
def F_ed0 (n : Nat) (w : List UInt8) : Option (Token × Int) :=
 ass (inB 0 w.length) <|
 bif (decide ((((w.getD 0 0).toNat : Nat) : Int) = 95)) then (
 some ((⟨0, ([] : List UInt8), 0, 0⟩ : Token), 5))
 else (
 ass (inB 0 w.length) <|
 Option.bind (F_dj0 n (IntKind.i32.wrap (((w.getD 0 0).toNat : Nat) : Int))) fun r4 =>
 bif r4 then (
 Option.bind (F_ac0 n w) fun r6 =>
 bif r6 then (
 some ((⟨2, w, 0, 0⟩ : Token), 0))
 else (
 Option.bind (F_cb0 n w) fun r8 =>
 bif (!r8) then (
 some ((⟨0, ([] : List UInt8), 0, 0⟩ : Token), 2))
 else (
 some ((⟨1, w, 0, 0⟩ : Token), 0))))
 else (
 Option.bind (F_bh0 n w) fun r10 =>
 bif (!decide (r10.2 = 0)) then (
 some ((⟨0, ([] : List UInt8), 0, 0⟩ : Token), r10.2))
 else (
 some ((⟨3, ([] : List UInt8), r10.1, 0⟩ : Token), 0))))
def F_di0 (n : Nat) (s : List UInt8) : Option (Token × Int × Int) :=
 Option.bind (F_ea0 n s) fun r1 =>
 bif (decide (0 < r1)) then (
 ass (upB r1 s.length) <|
 Option.bind (F_ed0 n (s.take (r1).toNat)) fun r4 =>
 some (r4.1, r1, r4.2))
 else (
 ass (inB 0 s.length) <|
 bif (decide ((((s.getD 0 0).toNat : Nat) : Int) = 34)) then (
 Option.bind (F_as0 n s) fun r7 =>
 some ((⟨4, r7.1, 0, 0⟩ : Token), r7.2.1, r7.2.2))
 else (
 Option.bind (F_bs0 n s) fun r8 =>
 bif (decide (r8 = ([] : List UInt8))) then (
 some ((⟨0, ([] : List UInt8), 0, 0⟩ : Token), 0, 5))
 else (
 some ((⟨5, r8, 0, 0⟩ : Token), ((r8.length : Nat) : Int), 0))))
def F_eg0 (n : Nat) (s : List UInt8) : Option (List UInt8) :=
 Option.bind (F_cg0 n s) fun r1 =>
 some r1
def F_p0_j1 (n : Nat) (v35 : List Token) : Option ((List Token) × Int × Int) :=
 some (v35, 0, 0)
def F_p0_j3 (n : Nat) (k2 : (List Token) → Int → Int → Option ((List Token) × Int × Int)) (src : List UInt8) (v17 : List Token) (v18 : Int) (v19 : Int) : Option ((List Token) × Int × Int) :=
 ass (upB v19 src.length) <|
 Option.bind (F_di0 n (src.drop (v19).toNat)) fun r29 =>
 bif (!decide (r29.2.2 = 0)) then (
 some (([] : List Token), v18, r29.2.2))
 else (
 Option.bind (F_eg0 n r29.1.Text) fun r30 =>
 ass (room (v17.length + ([(⟨r29.1.Kind, r30, r29.1.N, v18⟩ : Token)] : List Token).length) 40) <|
 k2 (v17 ++ ([(⟨r29.1.Kind, r30, r29.1.N, v18⟩ : Token)] : List Token)) v18 (IntKind.i64.wrap (v19 + r29.2.1)))
def F_p0_j5 (n : Nat) (k2 : (List Token) → Int → Int → Option ((List Token) × Int × Int)) (src : List UInt8) (v17 : List Token) (v18 : Int) (v27 : Int) : Option ((List Token) × Int × Int) :=
 k2 v17 v18 v27
def F_p0_b6 (n : Nat) (k2 : (List Token) → Int → Int → Option ((List Token) × Int × Int)) (src : List UInt8) (v17 : List Token) (v18 : Int) (k6 : Int → Option ((List Token) × Int × Int)) (v24 : Int) : Option ((List Token) × Int × Int) :=
 ass (!(decide (v24 < ((src.length : Nat) : Int))) || inB v24 src.length) <|
 bif (bif (decide (v24 < ((src.length : Nat) : Int))) then (!decide ((((src.getD (v24).toNat 0).toNat : Nat) : Int) = 10)) else false) then (
 k6 (IntKind.i64.wrap (v24 + 1)))
 else (
 F_p0_j5 n k2 src v17 v18 v24)
def F_p0_l6 (n : Nat) (k2 : (List Token) → Int → Int → Option ((List Token) × Int × Int)) (src : List UInt8) (v17 : List Token) (v18 : Int) : Nat → Int → Option ((List Token) × Int × Int)
 | 0 => fun _ => none
 | m + 1 => F_p0_b6 n k2 src v17 v18 (F_p0_l6 n k2 src v17 v18 m)
def F_p0_j4 (n : Nat) (k2 : (List Token) → Int → Int → Option ((List Token) × Int × Int)) (src : List UInt8) (v17 : List Token) (v18 : Int) (v19 : Int) (v21 : Bool) : Option ((List Token) × Int × Int) :=
 bif v21 then (
 k2 v17 v18 (IntKind.i64.wrap (v19 + 1)))
 else (
 bif (decide ((((src.getD (v19).toNat 0).toNat : Nat) : Int) = 35)) then (
 F_p0_l6 n k2 src v17 v18 n v19)
 else (
 F_p0_j3 n k2 src v17 v18 v19))
def F_p0_b2 (n : Nat) (src : List UInt8) (k2 : (List Token) → Int → Int → Option ((List Token) × Int × Int)) (v17 : List Token) (v18 : Int) (v19 : Int) : Option ((List Token) × Int × Int) :=
 bif (decide (v19 < ((src.length : Nat) : Int))) then (
 ass (inB v19 src.length) <|
 bif (decide ((((src.getD (v19).toNat 0).toNat : Nat) : Int) = 10)) then (
 k2 v17 (IntKind.i64.wrap (v18 + 1)) (IntKind.i64.wrap (v19 + 1)))
 else (
 bif (decide ((((src.getD (v19).toNat 0).toNat : Nat) : Int) = 32)) then (
 F_p0_j4 n k2 src v17 v18 v19 (decide ((((src.getD (v19).toNat 0).toNat : Nat) : Int) = 32)))
 else (
 F_p0_j4 n k2 src v17 v18 v19 (decide ((((src.getD (v19).toNat 0).toNat : Nat) : Int) = 9)))))
 else (
 F_p0_j1 n v17)
def F_p0_l2 (n : Nat) (src : List UInt8) : Nat → (List Token) → Int → Int → Option ((List Token) × Int × Int)
 | 0 => fun _ _ _ => none
 | m + 1 => F_p0_b2 n src (F_p0_l2 n src m)
def F_p0 (n : Nat) (src : List UInt8) : Option ((List Token) × Int × Int) :=
 bif (decide (16384 < ((src.length : Nat) : Int))) then (
 some (([] : List Token), 0, 2))
 else (
 F_p0_l2 n src n ([] : List Token) 1 0)
def F_bc0 (n : Nat) (text : List UInt8) (b0_ : PPz) : Option Bool :=
 bif (decide (((b0_.tokens.length : Nat) : Int) ≤ b0_.at_)) then (
 some false)
 else (
 ass (inB b0_.at_ b0_.tokens.length) <|
 some (bif (bif (decide ((b0_.tokens.getD (b0_.at_).toNat default).Kind = 2)) then true else (decide ((b0_.tokens.getD (b0_.at_).toNat default).Kind = 5))) then (decide (((b0_.tokens.getD (b0_.at_).toNat default).Text) = text)) else false))
def F_ce0 (n : Nat) (b0_ : PPz) : Option (Int × Int) :=
 bif (decide (((b0_.tokens.length : Nat) : Int) ≤ b0_.at_)) then (
 some (0, 0))
 else (
 ass (inB b0_.at_ b0_.tokens.length) <|
 bif (bif (!decide ((b0_.tokens.getD (b0_.at_).toNat default).Kind = 2)) then (!decide ((b0_.tokens.getD (b0_.at_).toNat default).Kind = 5)) else false) then (
 some (0, 0))
 else (
 bif (decide (((b0_.tokens.getD (b0_.at_).toNat default).Text) = ([111, 114] : List UInt8))) then (
 some (1, 17))
 else (
 bif (decide (((b0_.tokens.getD (b0_.at_).toNat default).Text) = ([97, 110, 100] : List UInt8))) then (
 some (2, 16))
 else (
 bif (decide (((b0_.tokens.getD (b0_.at_).toNat default).Text) = ([61, 61] : List UInt8))) then (
 some (4, 10))
 else (
 bif (decide (((b0_.tokens.getD (b0_.at_).toNat default).Text) = ([33, 61] : List UInt8))) then (
 some (4, 11))
 else (
 bif (decide (((b0_.tokens.getD (b0_.at_).toNat default).Text) = ([60] : List UInt8))) then (
 some (4, 12))
 else (
 bif (decide (((b0_.tokens.getD (b0_.at_).toNat default).Text) = ([60, 61] : List UInt8))) then (
 some (4, 13))
 else (
 bif (decide (((b0_.tokens.getD (b0_.at_).toNat default).Text) = ([62] : List UInt8))) then (
 some (4, 14))
 else (
 bif (decide (((b0_.tokens.getD (b0_.at_).toNat default).Text) = ([62, 61] : List UInt8))) then (
 some (4, 15))
 else (
 bif (decide (((b0_.tokens.getD (b0_.at_).toNat default).Text) = ([43, 43] : List UInt8))) then (
 some (5, 19))
 else (
 bif (decide (((b0_.tokens.getD (b0_.at_).toNat default).Text) = ([43] : List UInt8))) then (
 some (6, 4))
 else (
 bif (decide (((b0_.tokens.getD (b0_.at_).toNat default).Text) = ([45] : List UInt8))) then (
 some (6, 5))
 else (
 bif (decide (((b0_.tokens.getD (b0_.at_).toNat default).Text) = ([42] : List UInt8))) then (
 some (7, 6))
 else (
 bif (decide (((b0_.tokens.getD (b0_.at_).toNat default).Text) = ([47] : List UInt8))) then (
 some (7, 7))
 else (
 bif (decide (((b0_.tokens.getD (b0_.at_).toNat default).Text) = ([37] : List UInt8))) then (
 some (7, 8))
 else (
 some (0, 0)))))))))))))))))
def F_t0_j2 (n : Nat) (b0_ : PPz) : Option (Pn Unit Unit) :=
 ass (inB (IntKind.i64.wrap (((b0_.tokens.length : Nat) : Int) - 1)) b0_.tokens.length) <|
 some (.pan (.iface 114 (.agg [.int .i64 ((b0_.tokens.getD ((IntKind.i64.wrap (((b0_.tokens.length : Nat) : Int) - 1))).toNat default).Line), .int .i64 6])) ())
def F_t0_j1 (n : Nat) (b0_ : PPz) : Option (Pn Unit Unit) :=
 bif (decide (((b0_.tokens.length : Nat) : Int) = 0)) then (
 some (.pan (.iface 114 (.agg [.int .i64 1, .int .i64 6])) ()))
 else (
 F_t0_j2 n b0_)
def F_t0 (n : Nat) (code : Int) (b0_ : PPz) : Option (Pn Unit Unit) :=
 bif (decide (b0_.at_ < ((b0_.tokens.length : Nat) : Int))) then (
 ass (inB b0_.at_ b0_.tokens.length) <|
 some (.pan (.iface 114 (.agg [.int .i64 ((b0_.tokens.getD (b0_.at_).toNat default).Line), .int .i64 code])) ()))
 else (
 F_t0_j1 n b0_)
def F_ae0_j1 (n : Nat) (depth : Int) (b0_ : PPz) : Option (Pn Int Unit) :=
 some (.ret (IntKind.i64.wrap (depth + 1)) ())
def F_ae0 (n : Nat) (depth : Int) (b0_ : PPz) : Option (Pn Int Unit) :=
 bif (decide (24 ≤ depth)) then (
 Option.bind (F_t0 n 2 b0_) fun r1 =>
 Pn.on r1 (fun r2 r3 =>
 F_ae0_j1 n depth b0_) (fun x4 r3 =>
 some (.pan x4 ())))
 else (
 F_ae0_j1 n depth b0_)
def F_cj0 (n : Nat) (b0_ : PPz) : Option Int :=
 ass ((decide (((b0_.tokens.length : Nat) : Int) ≤ b0_.at_)) || inB b0_.at_ b0_.tokens.length) <|
 bif (bif (decide (((b0_.tokens.length : Nat) : Int) ≤ b0_.at_)) then true else (!decide ((b0_.tokens.getD (b0_.at_).toNat default).Kind = 2))) then (
 some 0)
 else (
 ass (inB b0_.at_ b0_.tokens.length) <|
 bif (decide (((b0_.tokens.getD (b0_.at_).toNat default).Text) = ([116, 101, 120, 116] : List UInt8))) then (
 some 20)
 else (
 bif (decide (((b0_.tokens.getD (b0_.at_).toNat default).Text) = ([108, 101, 110] : List UInt8))) then (
 some 21)
 else (
 bif (decide (((b0_.tokens.getD (b0_.at_).toNat default).Text) = ([103, 101, 116, 105, 110, 116] : List UInt8))) then (
 some 22)
 else (
 bif (decide (((b0_.tokens.getD (b0_.at_).toNat default).Text) = ([103, 101, 116, 115, 116, 114] : List UInt8))) then (
 some 23)
 else (
 bif (decide (((b0_.tokens.getD (b0_.at_).toNat default).Text) = ([104, 97, 115] : List UInt8))) then (
 some 24)
 else (
 bif (decide (((b0_.tokens.getD (b0_.at_).toNat default).Text) = ([110, 111, 119] : List UInt8))) then (
 some 25)
 else (
 bif (decide (((b0_.tokens.getD (b0_.at_).toNat default).Text) = ([114, 97, 110, 100, 111, 109] : List UInt8))) then (
 some 26)
 else (
 bif (decide (((b0_.tokens.getD (b0_.at_).toNat default).Text) = ([110, 111, 100, 101] : List UInt8))) then (
 some 27)
 else (
 some 0)))))))))
def F_w0 (n : Nat) (text : List UInt8) (b0_ : PPz) : Option (Bool × Int) :=
 Option.bind (F_bc0 n text b0_) fun r1 =>
 bif (!r1) then (
 some (false, b0_.at_))
 else (
 some (true, (IntKind.i64.wrap (b0_.at_ + 1))))
def F_g0 (n : Nat) (text : List UInt8) (b0_ : PPz) : Option (Pn Unit Int) :=
 Option.bind (F_w0 n text b0_) fun r1 =>
 bif (!r1.1) then (
 Option.bind (F_t0 n 5 (⟨b0_.tokens, r1.2⟩ : PPz)) fun r3 =>
 Pn.on r3 (fun r4 r5 =>
 some (.ret () r1.2)) (fun x6 r5 =>
 some (.pan x6 r1.2)))
 else (
 some (.ret () r1.2))
def F_a0_b1 (n : Nat) (f_a0 : Int → Int → PPz → Option (Pn Expr Int)) (f_e0 : Int → Int → Int → PPz → Option (Pn Expr Int)) (f_b0 : Int → PPz → Option (Pn Expr Int)) (f_d0 : Int → PPz → Option (Pn Expr Int)) (level : Int) (depth : Int) (b0_ : PPz) (k1 : Int → Int → Int → (List UInt8) → (List Expr) → Option (Pn Expr Int)) (v37 : Int) (v38 : Int) (v39 : Int) (v40 : List UInt8) (v41 : List Expr) : Option (Pn Expr Int) :=
 Option.bind (F_ce0 n (⟨b0_.tokens, v37⟩ : PPz)) fun r42 =>
 bif (!decide (r42.1 = level)) then (
 some (.ret (⟨v38, v39, v40, v41⟩ : Expr) v37))
 else (
 Option.bind (f_a0 (IntKind.i64.wrap (level + 1)) depth (⟨b0_.tokens, (IntKind.i64.wrap (v37 + 1))⟩ : PPz)) fun r43 =>
 Pn.on r43 (fun r44 r45 =>
 bif (decide (level = 4)) then (
 some (.ret (⟨r42.2, 0, ([] : List UInt8), ([(⟨v38, v39, v40, v41⟩ : Expr), r44] : List Expr)⟩ : Expr) r45))
 else (
 k1 r45 r42.2 0 ([] : List UInt8) ([(⟨v38, v39, v40, v41⟩ : Expr), r44] : List Expr))) (fun x46 r45 =>
 some (.pan x46 r45)))
def F_a0_l1 (n : Nat) (f_a0 : Int → Int → PPz → Option (Pn Expr Int)) (f_e0 : Int → Int → Int → PPz → Option (Pn Expr Int)) (f_b0 : Int → PPz → Option (Pn Expr Int)) (f_d0 : Int → PPz → Option (Pn Expr Int)) (level : Int) (depth : Int) (b0_ : PPz) : Nat → Int → Int → Int → (List UInt8) → (List Expr) → Option (Pn Expr Int)
 | 0 => fun _ _ _ _ _ => none
 | m + 1 => F_a0_b1 n f_a0 f_e0 f_b0 f_d0 level depth b0_ (F_a0_l1 n f_a0 f_e0 f_b0 f_d0 level depth b0_ m)
def B_a0 (n : Nat) (f_a0 : Int → Int → PPz → Option (Pn Expr Int)) (f_e0 : Int → Int → Int → PPz → Option (Pn Expr Int)) (f_b0 : Int → PPz → Option (Pn Expr Int)) (f_d0 : Int → PPz → Option (Pn Expr Int)) (level : Int) (depth : Int) (b0_ : PPz) : Option (Pn Expr Int) :=
 bif (decide (level = 3)) then (
 Option.bind (F_bc0 n ([110, 111, 116] : List UInt8) b0_) fun r2 =>
 bif r2 then (
 Option.bind (f_e0 18 level depth b0_) fun r4 =>
 Pn.on r4 (fun r5 r6 =>
 some (.ret r5 r6)) (fun x7 r6 =>
 some (.pan x7 r6)))
 else (
 Option.bind (f_a0 4 depth b0_) fun r8 =>
 Pn.on r8 (fun r9 r10 =>
 some (.ret r9 r10)) (fun x11 r10 =>
 some (.pan x11 r10))))
 else (
 bif (decide (level = 8)) then (
 Option.bind (F_bc0 n ([45] : List UInt8) b0_) fun r13 =>
 bif r13 then (
 Option.bind (f_e0 9 level depth b0_) fun r15 =>
 Pn.on r15 (fun r16 r17 =>
 some (.ret r16 r17)) (fun x18 r17 =>
 some (.pan x18 r17)))
 else (
 Option.bind (f_b0 depth b0_) fun r19 =>
 Pn.on r19 (fun r20 r21 =>
 some (.ret r20 r21)) (fun x22 r21 =>
 some (.pan x22 r21))))
 else (
 Option.bind (f_a0 (IntKind.i64.wrap (level + 1)) depth b0_) fun r23 =>
 Pn.on r23 (fun r24 r25 =>
 F_a0_l1 n f_a0 f_e0 f_b0 f_d0 level depth b0_ n r25 r24.Op r24.N r24.S r24.Args) (fun x26 r25 =>
 some (.pan x26 r25))))
def B_e0 (n : Nat) (f_a0 : Int → Int → PPz → Option (Pn Expr Int)) (f_e0 : Int → Int → Int → PPz → Option (Pn Expr Int)) (f_b0 : Int → PPz → Option (Pn Expr Int)) (f_d0 : Int → PPz → Option (Pn Expr Int)) (op : Int) (level : Int) (depth : Int) (b0_ : PPz) : Option (Pn Expr Int) :=
 Option.bind (F_ae0 n depth b0_) fun r1 =>
 Pn.on r1 (fun r2 r3 =>
 Option.bind (f_a0 level r2 (⟨b0_.tokens, (IntKind.i64.wrap (b0_.at_ + 1))⟩ : PPz)) fun r5 =>
 Pn.on r5 (fun r6 r7 =>
 some (.ret (⟨op, 0, ([] : List UInt8), ([r6] : List Expr)⟩ : Expr) r7)) (fun x8 r7 =>
 some (.pan x8 r7))) (fun x4 r3 =>
 some (.pan x4 b0_.at_))
def F_b0_j2 (n : Nat) (f_a0 : Int → Int → PPz → Option (Pn Expr Int)) (f_e0 : Int → Int → Int → PPz → Option (Pn Expr Int)) (f_b0 : Int → PPz → Option (Pn Expr Int)) (f_d0 : Int → PPz → Option (Pn Expr Int)) (depth : Int) (r3 : Int) (b0_ : PPz) (v2 : Int) : Option (Pn Expr Int) :=
 Option.bind (F_ae0 n depth (⟨b0_.tokens, v2⟩ : PPz)) fun r26 =>
 Pn.on r26 (fun r27 r28 =>
 Option.bind (f_d0 r27 (⟨b0_.tokens, (IntKind.i64.wrap (v2 + 1))⟩ : PPz)) fun r30 =>
 Pn.on r30 (fun r31 r32 =>
 some (.ret (⟨r3, 0, ([] : List UInt8), ([r31] : List Expr)⟩ : Expr) r32)) (fun x33 r32 =>
 some (.pan x33 r32))) (fun x29 r28 =>
 some (.pan x29 v2))
def F_b0_j3 (n : Nat) (f_a0 : Int → Int → PPz → Option (Pn Expr Int)) (f_e0 : Int → Int → Int → PPz → Option (Pn Expr Int)) (f_b0 : Int → PPz → Option (Pn Expr Int)) (f_d0 : Int → PPz → Option (Pn Expr Int)) (depth : Int) (b0_ : PPz) (v2 : Int) : Option (Pn Expr Int) :=
 Option.bind (F_ae0 n depth (⟨b0_.tokens, v2⟩ : PPz)) fun r9 =>
 Pn.on r9 (fun r10 r11 =>
 Option.bind (f_d0 r10 (⟨b0_.tokens, v2⟩ : PPz)) fun r13 =>
 Pn.on r13 (fun r14 r15 =>
 some (.ret r14 r15)) (fun x16 r15 =>
 some (.pan x16 r15))) (fun x12 r11 =>
 some (.pan x12 v2))
def F_b0_j4 (n : Nat) (f_a0 : Int → Int → PPz → Option (Pn Expr Int)) (f_e0 : Int → Int → Int → PPz → Option (Pn Expr Int)) (f_b0 : Int → PPz → Option (Pn Expr Int)) (f_d0 : Int → PPz → Option (Pn Expr Int)) (depth : Int) (r3 : Int) (b0_ : PPz) (v2 : Int) (v17 : Bool) : Option (Pn Expr Int) :=
 bif v17 then (
 Option.bind (F_g0 n ([40] : List UInt8) (⟨b0_.tokens, (IntKind.i64.wrap (v2 + 1))⟩ : PPz)) fun r18 =>
 Pn.on r18 (fun r19 r20 =>
 Option.bind (F_g0 n ([41] : List UInt8) (⟨b0_.tokens, r20⟩ : PPz)) fun r22 =>
 Pn.on r22 (fun r23 r24 =>
 some (.ret (⟨r3, 0, ([] : List UInt8), ([] : List Expr)⟩ : Expr) r24)) (fun x25 r24 =>
 some (.pan x25 r24))) (fun x21 r20 =>
 some (.pan x21 r20)))
 else (
 F_b0_j2 n f_a0 f_e0 f_b0 f_d0 depth r3 b0_ v2)
def F_b0_j1 (n : Nat) (f_a0 : Int → Int → PPz → Option (Pn Expr Int)) (f_e0 : Int → Int → Int → PPz → Option (Pn Expr Int)) (f_b0 : Int → PPz → Option (Pn Expr Int)) (f_d0 : Int → PPz → Option (Pn Expr Int)) (depth : Int) (b0_ : PPz) (v2 : Int) : Option (Pn Expr Int) :=
 Option.bind (F_cj0 n (⟨b0_.tokens, v2⟩ : PPz)) fun r3 =>
 bif (decide (r3 = 0)) then (
 Option.bind (F_bc0 n ([40] : List UInt8) (⟨b0_.tokens, v2⟩ : PPz)) fun r4 =>
 bif (!r4) then (
 Option.bind (F_t0 n 5 (⟨b0_.tokens, v2⟩ : PPz)) fun r5 =>
 Pn.on r5 (fun r6 r7 =>
 F_b0_j3 n f_a0 f_e0 f_b0 f_d0 depth b0_ v2) (fun x8 r7 =>
 some (.pan x8 v2)))
 else (
 F_b0_j3 n f_a0 f_e0 f_b0 f_d0 depth b0_ v2))
 else (
 bif (decide (r3 = 25)) then (
 F_b0_j4 n f_a0 f_e0 f_b0 f_d0 depth r3 b0_ v2 (decide (r3 = 25)))
 else (
 bif (decide (r3 = 26)) then (
 F_b0_j4 n f_a0 f_e0 f_b0 f_d0 depth r3 b0_ v2 (decide (r3 = 26)))
 else (
 F_b0_j4 n f_a0 f_e0 f_b0 f_d0 depth r3 b0_ v2 (decide (r3 = 27)))))
def B_b0 (n : Nat) (f_a0 : Int → Int → PPz → Option (Pn Expr Int)) (f_e0 : Int → Int → Int → PPz → Option (Pn Expr Int)) (f_b0 : Int → PPz → Option (Pn Expr Int)) (f_d0 : Int → PPz → Option (Pn Expr Int)) (depth : Int) (b0_ : PPz) : Option (Pn Expr Int) :=
 bif (decide (b0_.at_ < ((b0_.tokens.length : Nat) : Int))) then (
 ass (inB b0_.at_ b0_.tokens.length) <|
 bif (decide ((b0_.tokens.getD (b0_.at_).toNat default).Kind = 3)) then (
 some (.ret (⟨1, (b0_.tokens.getD (b0_.at_).toNat default).N, ([] : List UInt8), ([] : List Expr)⟩ : Expr) (IntKind.i64.wrap (b0_.at_ + 1))))
 else (
 bif (decide ((b0_.tokens.getD (b0_.at_).toNat default).Kind = 4)) then (
 some (.ret (⟨2, 0, (b0_.tokens.getD (b0_.at_).toNat default).Text, ([] : List Expr)⟩ : Expr) (IntKind.i64.wrap (b0_.at_ + 1))))
 else (
 bif (decide ((b0_.tokens.getD (b0_.at_).toNat default).Kind = 1)) then (
 some (.ret (⟨3, 0, (b0_.tokens.getD (b0_.at_).toNat default).Text, ([] : List Expr)⟩ : Expr) (IntKind.i64.wrap (b0_.at_ + 1))))
 else (
 F_b0_j1 n f_a0 f_e0 f_b0 f_d0 depth b0_ (IntKind.i64.wrap ((IntKind.i64.wrap (b0_.at_ + 1)) - 1))))))
 else (
 F_b0_j1 n f_a0 f_e0 f_b0 f_d0 depth b0_ b0_.at_)
def B_d0 (n : Nat) (f_a0 : Int → Int → PPz → Option (Pn Expr Int)) (f_e0 : Int → Int → Int → PPz → Option (Pn Expr Int)) (f_b0 : Int → PPz → Option (Pn Expr Int)) (f_d0 : Int → PPz → Option (Pn Expr Int)) (depth : Int) (b0_ : PPz) : Option (Pn Expr Int) :=
 Option.bind (F_g0 n ([40] : List UInt8) b0_) fun r1 =>
 Pn.on r1 (fun r2 r3 =>
 Option.bind (f_a0 1 depth (⟨b0_.tokens, r3⟩ : PPz)) fun r5 =>
 Pn.on r5 (fun r6 r7 =>
 Option.bind (F_g0 n ([41] : List UInt8) (⟨b0_.tokens, r7⟩ : PPz)) fun r9 =>
 Pn.on r9 (fun r10 r11 =>
 some (.ret r6 r11)) (fun x12 r11 =>
 some (.pan x12 r11))) (fun x8 r7 =>
 some (.pan x8 r7))) (fun x4 r3 =>
 some (.pan x4 r3))
def FS_a0 : Nat → (Int → Int → PPz → Option (Pn Expr Int)) × (Int → Int → Int → PPz → Option (Pn Expr Int)) × (Int → PPz → Option (Pn Expr Int)) × (Int → PPz → Option (Pn Expr Int))
 | 0 => (fun _ _ _ => none, fun _ _ _ _ => none, fun _ _ => none, fun _ _ => none)
 | m + 1 => (B_a0 m ((FS_a0 m).1) ((FS_a0 m).2.1) ((FS_a0 m).2.2.1) ((FS_a0 m).2.2.2), B_e0 m ((FS_a0 m).1) ((FS_a0 m).2.1) ((FS_a0 m).2.2.1) ((FS_a0 m).2.2.2), B_b0 m ((FS_a0 m).1) ((FS_a0 m).2.1) ((FS_a0 m).2.2.1) ((FS_a0 m).2.2.2), B_d0 m ((FS_a0 m).1) ((FS_a0 m).2.1) ((FS_a0 m).2.2.1) ((FS_a0 m).2.2.2))
def F_a0 (n : Nat) : Int → Int → PPz → Option (Pn Expr Int) := (FS_a0 n).1
def F_e0 (n : Nat) : Int → Int → Int → PPz → Option (Pn Expr Int) := (FS_a0 n).2.1
def F_b0 (n : Nat) : Int → PPz → Option (Pn Expr Int) := (FS_a0 n).2.2.1
def F_d0 (n : Nat) : Int → PPz → Option (Pn Expr Int) := (FS_a0 n).2.2.2
def F_eq0 (n : Nat) (b0_ : PPz) (b1_ : Expr) : Option (Pn Unit (Int × Int × Int × (List UInt8) × (List Expr))) :=
 Option.bind (F_a0 n 1 0 b0_) fun r1 =>
 Pn.on r1 (fun r2 r3 =>
 some (.ret () (r3, r2.Op, r2.N, r2.S, r2.Args))) (fun x4 r3 =>
 some (.pan x4 (r3, b1_.Op, b1_.N, b1_.S, b1_.Args)))
def F_da0 (n : Nat) (src : List UInt8) (b0_ : Expr) : Option (Int × Int × Int × Int × (List UInt8) × (List Expr)) :=
 Option.bind (F_p0 n src) fun r1 =>
 bif (!decide (r1.2.2 = 0)) then some (r1.2.1, r1.2.2, b0_.Op, b0_.N, b0_.S, b0_.Args)
 else Option.bind (F_eq0 n (⟨r1.1, 0⟩ : PPz) b0_) fun r2 =>
 Pn.on r2 (fun za zm =>
 bif decide (zm.1 < ((r1.1.length : Nat) : Int)) then Option.bind (F_t0 n 5 (⟨r1.1, zm.1⟩ : PPz)) fun r3 => Pn.on r3 (fun zb zc => none) (fun zx zc => Option.bind (asFail 114 zx) fun lc => some (lc.1, lc.2, zm.2.1, zm.2.2.1, zm.2.2.2.1, zm.2.2.2.2))
 else some (0, 0, zm.2.1, zm.2.2.1, zm.2.2.2.1, zm.2.2.2.2))
 (fun zx zm => Option.bind (asFail 114 zx) fun lc => some (lc.1, lc.2, zm.2.1, zm.2.2.1, zm.2.2.2.1, zm.2.2.2.2))
def F_cy0_j1 (n : Nat) (r1 : Int × Int × Int × Int × (List UInt8) × (List Expr)) (v3 : Int) : Option (Expr × Int × Int) :=
 bif (!decide (v3 = 0)) then (
 some ((⟨0, 0, ([] : List UInt8), ([] : List Expr)⟩ : Expr), r1.1, v3))
 else (
 some ((⟨r1.2.2.1, r1.2.2.2.1, r1.2.2.2.2.1, r1.2.2.2.2.2⟩ : Expr), 0, 0))
def F_cy0 (n : Nat) (src : List UInt8) : Option (Expr × Int × Int) :=
 Option.bind (F_da0 n src (⟨0, 0, ([] : List UInt8), ([] : List Expr)⟩ : Expr)) fun r1 =>
 bif (decide (r1.2.1 = 0)) then (
 Option.bind (F_cx0 n (⟨r1.2.2.1, r1.2.2.2.1, r1.2.2.2.2.1, r1.2.2.2.2.2⟩ : Expr)) fun r2 =>
 F_cy0_j1 n r1 r2)
 else (
 F_cy0_j1 n r1 r1.2.1)
def F_ei0 (n : Nat) (y : Param) (b0_ : Param) : Option Bool :=
 some (decide (y.Name = b0_.Name))
def F_ao0_j1 (n : Nat) (b0_ : Param) : Option Int :=
 some (-1)
def F_ao0_b2 (n : Nat) (s : List Param) (b0_ : Param) (k2 : Int → Option Int) (v4 : Int) : Option Int :=
 bif (decide (v4 < ((s.length : Nat) : Int))) then (
 ass (inB v4 s.length) <|
 Option.bind (F_ei0 n (s.getD (v4).toNat default) b0_) fun r6 =>
 bif r6 then (
 some v4)
 else (
 k2 (IntKind.i64.wrap (v4 + 1))))
 else (
 F_ao0_j1 n b0_)
def F_ao0_l2 (n : Nat) (s : List Param) (b0_ : Param) : Nat → Int → Option Int
 | 0 => fun _ => none
 | m + 1 => F_ao0_b2 n s b0_ (F_ao0_l2 n s b0_ m)
def F_ao0 (n : Nat) (s : List Param) (b0_ : Param) : Option Int :=
 F_ao0_l2 n s b0_ n 0
def F_cc0 (n : Nat) (s : List Param) (b0_ : Param) : Option Bool :=
 Option.bind (F_ao0 n s b0_) fun r1 =>
 some (decide (0 ≤ r1))
def F_bv0_j1 (n : Nat) : Option Int :=
 some 0
def F_bv0_b2 (n : Nat) (l : List Param) (k2 : Int → Option Int) (v7 : Int) : Option Int :=
 bif (decide (v7 < ((l.length : Nat) : Int))) then (
 ass (inB v7 l.length) <|
 Option.bind (F_cb0 n ((l.getD (v7).toNat default).Name)) fun r9 =>
 bif (!r9) then (
 some 7)
 else (
 bif (bif (decide ((l.getD (v7).toNat default).Type_ < 1)) then true else (decide (3 < (l.getD (v7).toNat default).Type_))) then (
 some 10)
 else (
 ass (upB v7 l.length) <|
 Option.bind (F_cc0 n (l.take (v7).toNat) (l.getD (v7).toNat default)) fun r11 =>
 bif r11 then (
 some 8)
 else (
 k2 (IntKind.i64.wrap (v7 + 1))))))
 else (
 F_bv0_j1 n)
def F_bv0_l2 (n : Nat) (l : List Param) : Nat → Int → Option Int
 | 0 => fun _ => none
 | m + 1 => F_bv0_b2 n l (F_bv0_l2 n l m)
def F_bv0 (n : Nat) (l : List Param) : Option Int :=
 bif (decide (6 < ((l.length : Nat) : Int))) then (
 some 2)
 else (
 F_bv0_l2 n l n 0)
def F_du0 (n : Nat) (e : Expr) : Option Bool :=
 some (bif (bif (bif (decide (e.Op = 0)) then (decide (e.N = 0)) else false) then (decide (e.S = ([] : List UInt8))) else false) then (decide (((e.Args.length : Nat) : Int) = 0)) else false)
def F_es0 (n : Nat) (s : Stmt) (u : ast_uses) : Option Bool :=
 Option.bind (bif ((!(bif (!u.name) then (!(decide (s.Name = ([] : List UInt8)))) else false)) && (!u.a)) then F_du0 n (⟨s.A.Op, s.A.N, s.A.S, s.A.Args⟩ : Expr) else some default) fun r1 =>
 Option.bind (bif ((!(bif (bif (!u.name) then (!(decide (s.Name = ([] : List UInt8)))) else false) then true else (bif (!u.a) then (!r1) else false))) && (!u.b)) then F_du0 n (⟨s.B.Op, s.B.N, s.B.S, s.B.Args⟩ : Expr) else some default) fun r2 =>
 bif (bif (bif (bif (bif (bif (bif (!u.name) then (!(decide (s.Name = ([] : List UInt8)))) else false) then true else (bif (!u.a) then (!r1) else false)) then true else (bif (!u.b) then (!r2) else false)) then true else (bif (!u.max) then (!decide (s.Max = 0)) else false)) then true else (bif (!u.body) then (decide (0 < ((s.Body.length : Nat) : Int))) else false)) then true else (bif (!u.other) then (decide (0 < ((s.Else.length : Nat) : Int))) else false)) then (
 some false)
 else (
 bif (decide (s.Op = 6)) then (
 some (bif (decide (1 ≤ s.Max)) then (decide (s.Max ≤ 16)) else false))
 else (
 bif (decide (s.Op = 8)) then (
 some (bif (decide (0 ≤ s.Max)) then (decide (s.Max ≤ 999)) else false))
 else (
 some true)))
def F_by0_j1 (n : Nat) : Option (ast_uses × Bool) :=
 some ((⟨false, false, false, false, false, false⟩ : ast_uses), false)
def F_by0_j3 (n : Nat) (op : Int) (v2 : Bool) : Option (ast_uses × Bool) :=
 bif v2 then (
 some ((⟨false, true, false, false, false, false⟩ : ast_uses), true))
 else (
 bif (decide (op = 5)) then (
 some ((⟨false, true, false, false, true, true⟩ : ast_uses), true))
 else (
 bif (decide (op = 6)) then (
 some ((⟨true, true, true, true, true, false⟩ : ast_uses), true))
 else (
 bif (decide (op = 8)) then (
 some ((⟨false, false, false, true, false, false⟩ : ast_uses), true))
 else (
 F_by0_j1 n))))
def F_by0_j2 (n : Nat) (op : Int) (v1 : Bool) : Option (ast_uses × Bool) :=
 bif v1 then (
 some ((⟨true, true, false, false, false, false⟩ : ast_uses), true))
 else (
 bif (decide (op = 3)) then (
 some ((⟨false, true, true, false, false, false⟩ : ast_uses), true))
 else (
 bif (decide (op = 4)) then (
 F_by0_j3 n op (decide (op = 4)))
 else (
 F_by0_j3 n op (decide (op = 7)))))
def F_by0 (n : Nat) (op : Int) : Option (ast_uses × Bool) :=
 bif (decide (op = 1)) then (
 F_by0_j2 n op (decide (op = 1)))
 else (
 F_by0_j2 n op (decide (op = 2)))
def F_bu0_j2 (n : Nat) (depth : Int) : Option Int :=
 bif (decide (12 < depth)) then (
 some 2)
 else (
 some 0)
def F_bu0_j1 (n : Nat) (depth : Int) (s : Stmt) (r1 : ast_uses × Bool) : Option Int :=
 bif r1.1.b then (
 Option.bind (F_cx0 n (⟨s.B.Op, s.B.N, s.B.S, s.B.Args⟩ : Expr)) fun r7 =>
 bif (!decide (r7 = 0)) then (
 some r7)
 else (
 F_bu0_j2 n depth))
 else (
 F_bu0_j2 n depth)
def F_bu0 (n : Nat) (s : Stmt) (depth : Int) : Option Int :=
 Option.bind (F_by0 n s.Op) fun r1 =>
 Option.bind (bif (!(!r1.2)) then F_es0 n (⟨s.Op, s.Name, s.Max, (⟨s.A.Op, s.A.N, s.A.S, s.A.Args⟩ : Expr), (⟨s.B.Op, s.B.N, s.B.S, s.B.Args⟩ : Expr), s.Body, s.Else⟩ : Stmt) r1.1 else some default) fun r2 =>
 bif (bif (!r1.2) then true else (!r2)) then (
 some 1)
 else (
 Option.bind (bif r1.1.name then F_cb0 n s.Name else some default) fun r4 =>
 bif (bif r1.1.name then (!r4) else false) then (
 some 7)
 else (
 bif r1.1.a then (
 Option.bind (F_cx0 n (⟨s.A.Op, s.A.N, s.A.S, s.A.Args⟩ : Expr)) fun r6 =>
 bif (!decide (r6 = 0)) then (
 some r6)
 else (
 F_bu0_j1 n depth s r1))
 else (
 F_bu0_j1 n depth s r1)))
def F_dt0 (n : Nat) (s : Stmt) (depth : Int) (b0_ : Int) : Option Int :=
 bif (decide (b0_ = 0)) then (
 Option.bind (F_bu0 n (⟨s.Op, s.Name, s.Max, (⟨s.A.Op, s.A.N, s.A.S, s.A.Args⟩ : Expr), (⟨s.B.Op, s.B.N, s.B.S, s.B.Args⟩ : Expr), s.Body, s.Else⟩ : Stmt) depth) fun r2 =>
 some r2)
 else (
 some b0_)
def F_ep0 (n : Nat) (a0 : Expr) : Option Unit :=
 some ()
def F_ad0_b1 (n : Nat) (f_ad0 : Expr → Int → Int → Option Int) (e : Expr) (b1_ : Int) (k1 : Int → Int → Option Int) (v6 : Int) (v7 : Int) : Option Int :=
 bif (decide (v7 < ((e.Args.length : Nat) : Int))) then (
 ass (inB v7 e.Args.length) <|
 Option.bind (f_ad0 (e.Args.getD (v7).toNat default) v6 b1_) fun r9 =>
 k1 r9 (IntKind.i64.wrap (v7 + 1)))
 else (
 some v6)
def F_ad0_l1 (n : Nat) (f_ad0 : Expr → Int → Int → Option Int) (e : Expr) (b1_ : Int) : Nat → Int → Int → Option Int
 | 0 => fun _ _ => none
 | m + 1 => F_ad0_b1 n f_ad0 e b1_ (F_ad0_l1 n f_ad0 e b1_ m)
def B_ad0 (n : Nat) (f_ad0 : Expr → Int → Int → Option Int) (e : Expr) (b0_0_ : Int) (b1_ : Int) : Option Int :=
 bif (decide (b0_0_ = 0)) then (
 some b0_0_)
 else (
 F_ad0_l1 n f_ad0 e b1_ n (IntKind.i64.wrap (b0_0_ - 1)) 0)
def F_ad0 : Nat → Expr → Int → Int → Option Int
 | 0 => fun _ _ _ => none
 | m + 1 => B_ad0 m (F_ad0 m)
def F_cw0 (n : Nat) (e : Expr) (b0_0_ : Int) (b1_ : Int) : Option Int :=
 Option.bind (bif (!(decide (b0_0_ = 0))) then F_du0 n e else some default) fun r1 =>
 bif (bif (decide (b0_0_ = 0)) then true else r1) then (
 some b0_0_)
 else (
 Option.bind (F_ep0 n e) fun r3 =>
 Option.bind (F_ad0 n e b0_0_ b1_) fun r4 =>
 some r4)
def F_ab0_b1 (n : Nat) (f_ab0 : (List Stmt) → Int → Int → Int → Option (Int × Int)) (depth : Int) (l : List Stmt) (k1 : Int → Int → Int → Option (Int × Int)) (v10 : Int) (v11 : Int) (v12 : Int) : Option (Int × Int) :=
 bif (decide (v12 < ((l.length : Nat) : Int))) then (
 ass (inB v12 l.length) <|
 bif (decide (v10 = 0)) then (
 some (v10, v11))
 else (
 Option.bind (F_dt0 n (⟨(l.getD (v12).toNat default).Op, (l.getD (v12).toNat default).Name, (l.getD (v12).toNat default).Max, (⟨((l.getD (v12).toNat default).A).Op, ((l.getD (v12).toNat default).A).N, ((l.getD (v12).toNat default).A).S, ((l.getD (v12).toNat default).A).Args⟩ : Expr), (⟨((l.getD (v12).toNat default).B).Op, ((l.getD (v12).toNat default).B).N, ((l.getD (v12).toNat default).B).S, ((l.getD (v12).toNat default).B).Args⟩ : Expr), (l.getD (v12).toNat default).Body, (l.getD (v12).toNat default).Else⟩ : Stmt) depth v11) fun r14 =>
 Option.bind (F_cw0 n (⟨((l.getD (v12).toNat default).A).Op, ((l.getD (v12).toNat default).A).N, ((l.getD (v12).toNat default).A).S, ((l.getD (v12).toNat default).A).Args⟩ : Expr) (IntKind.i64.wrap (v10 - 1)) r14) fun r15 =>
 Option.bind (F_cw0 n (⟨((l.getD (v12).toNat default).B).Op, ((l.getD (v12).toNat default).B).N, ((l.getD (v12).toNat default).B).S, ((l.getD (v12).toNat default).B).Args⟩ : Expr) r15 r14) fun r16 =>
 Option.bind (f_ab0 ((l.getD (v12).toNat default).Body) (IntKind.i64.wrap (depth + 1)) r16 r14) fun r17 =>
 Option.bind (f_ab0 ((l.getD (v12).toNat default).Else) (IntKind.i64.wrap (depth + 1)) r17.1 r17.2) fun r18 =>
 k1 r18.1 r18.2 (IntKind.i64.wrap (v12 + 1))))
 else (
 some (v10, v11))
def F_ab0_l1 (n : Nat) (f_ab0 : (List Stmt) → Int → Int → Int → Option (Int × Int)) (depth : Int) (l : List Stmt) : Nat → Int → Int → Int → Option (Int × Int)
 | 0 => fun _ _ _ => none
 | m + 1 => F_ab0_b1 n f_ab0 depth l (F_ab0_l1 n f_ab0 depth l m)
def B_ab0 (n : Nat) (f_ab0 : (List Stmt) → Int → Int → Int → Option (Int × Int)) (l : List Stmt) (depth : Int) (b0_0_ : Int) (b1_ : Int) : Option (Int × Int) :=
 F_ab0_l1 n f_ab0 depth l n b0_0_ b1_ 0
def F_ab0 : Nat → (List Stmt) → Int → Int → Int → Option (Int × Int)
 | 0 => fun _ _ _ _ => none
 | m + 1 => B_ab0 m (F_ab0 m)
def F_ew0 (n : Nat) (p : Proc) (b0_ : Int) : Option (Int × Int) :=
 Option.bind (F_ab0 n p.Body 1 401 b0_) fun r1 =>
 some ((IntKind.i64.wrap (401 - r1.1)), r1.2)
def F_bw0 (n : Nat) (p : Proc) : Option Int :=
 Option.bind (F_cb0 n p.Name) fun r1 =>
 bif (!r1) then (
 some 7)
 else (
 Option.bind (F_bv0 n p.Params) fun r3 =>
 bif (!decide (r3 = 0)) then (
 some r3)
 else (
 Option.bind (F_ew0 n p r3) fun r5 =>
 bif (bif (decide (r5.2 = 0)) then (decide (400 < r5.1)) else false) then (
 some 2)
 else (
 some r5.2)))
def F_y0 (n : Nat) (s : Stmt) (b0_ : PPz) : Option (Pn Stmt Int) :=
 Option.bind (F_g0 n ([59] : List UInt8) b0_) fun r1 =>
 Pn.on r1 (fun r2 r3 =>
 some (.ret (⟨s.Op, s.Name, s.Max, (⟨s.A.Op, s.A.N, s.A.S, s.A.Args⟩ : Expr), (⟨s.B.Op, s.B.N, s.B.S, s.B.Args⟩ : Expr), s.Body, s.Else⟩ : Stmt) r3)) (fun x4 r3 =>
 some (.pan x4 r3))
def F_r0_j1 (n : Nat) (b0_ : PPz) : Option (Pn Token Int) :=
 ass (inB (IntKind.i64.wrap ((IntKind.i64.wrap (b0_.at_ + 1)) - 1)) b0_.tokens.length) <|
 some (.ret (b0_.tokens.getD ((IntKind.i64.wrap ((IntKind.i64.wrap (b0_.at_ + 1)) - 1))).toNat default) (IntKind.i64.wrap (b0_.at_ + 1)))
def F_r0 (n : Nat) (kind : Int) (b0_ : PPz) : Option (Pn Token Int) :=
 ass ((decide (((b0_.tokens.length : Nat) : Int) ≤ b0_.at_)) || inB b0_.at_ b0_.tokens.length) <|
 bif (bif (decide (((b0_.tokens.length : Nat) : Int) ≤ b0_.at_)) then true else (!decide ((b0_.tokens.getD (b0_.at_).toNat default).Kind = kind))) then (
 Option.bind (F_t0 n 5 b0_) fun r2 =>
 Pn.on r2 (fun r3 r4 =>
 F_r0_j1 n b0_) (fun x5 r4 =>
 some (.pan x5 b0_.at_)))
 else (
 F_r0_j1 n b0_)
def F_c0_j2 (n : Nat) (f_c0 : Int → PPz → Option (Pn (List Stmt) Int)) (f_h0 : Int → PPz → Option (Pn Stmt Int)) (f_m0 : Int → PPz → Option (Pn Stmt Int)) (b0_ : PPz) (v28 : Int) (v29 : List Stmt) : Option (Pn (List Stmt) Int) :=
 some (.ret v29 v28)
def F_c0_b3 (n : Nat) (f_c0 : Int → PPz → Option (Pn (List Stmt) Int)) (f_h0 : Int → PPz → Option (Pn Stmt Int)) (f_m0 : Int → PPz → Option (Pn Stmt Int)) (depth : Int) (b0_ : PPz) (k3 : Int → (List Stmt) → Option (Pn (List Stmt) Int)) (v18 : Int) (v19 : List Stmt) : Option (Pn (List Stmt) Int) :=
 Option.bind (F_w0 n ([125] : List UInt8) (⟨b0_.tokens, v18⟩ : PPz)) fun r20 =>
 bif (!r20.1) then (
 Option.bind (f_h0 (IntKind.i64.wrap (depth + 1)) (⟨b0_.tokens, r20.2⟩ : PPz)) fun r21 =>
 Pn.on r21 (fun r22 r23 =>
 ass (room (v19.length + ([r22] : List Stmt).length) 192) <|
 k3 r23 (v19 ++ ([r22] : List Stmt))) (fun x24 r23 =>
 some (.pan x24 r23)))
 else (
 F_c0_j2 n f_c0 f_h0 f_m0 b0_ r20.2 v19)
def F_c0_l3 (n : Nat) (f_c0 : Int → PPz → Option (Pn (List Stmt) Int)) (f_h0 : Int → PPz → Option (Pn Stmt Int)) (f_m0 : Int → PPz → Option (Pn Stmt Int)) (depth : Int) (b0_ : PPz) : Nat → Int → (List Stmt) → Option (Pn (List Stmt) Int)
 | 0 => fun _ _ => none
 | m + 1 => F_c0_b3 n f_c0 f_h0 f_m0 depth b0_ (F_c0_l3 n f_c0 f_h0 f_m0 depth b0_ m)
def F_c0_j1 (n : Nat) (f_c0 : Int → PPz → Option (Pn (List Stmt) Int)) (f_h0 : Int → PPz → Option (Pn Stmt Int)) (f_m0 : Int → PPz → Option (Pn Stmt Int)) (depth : Int) (b0_ : PPz) : Option (Pn (List Stmt) Int) :=
 Option.bind (F_g0 n ([123] : List UInt8) b0_) fun r6 =>
 Pn.on r6 (fun r7 r8 =>
 F_c0_l3 n f_c0 f_h0 f_m0 depth b0_ n r8 ([] : List Stmt)) (fun x9 r8 =>
 some (.pan x9 r8))
def B_c0 (n : Nat) (f_c0 : Int → PPz → Option (Pn (List Stmt) Int)) (f_h0 : Int → PPz → Option (Pn Stmt Int)) (f_m0 : Int → PPz → Option (Pn Stmt Int)) (depth : Int) (b0_ : PPz) : Option (Pn (List Stmt) Int) :=
 Option.bind (F_bc0 n ([123] : List UInt8) b0_) fun r1 =>
 bif (bif r1 then (decide (12 < depth)) else false) then (
 Option.bind (F_t0 n 2 b0_) fun r2 =>
 Pn.on r2 (fun r3 r4 =>
 F_c0_j1 n f_c0 f_h0 f_m0 depth b0_) (fun x5 r4 =>
 some (.pan x5 b0_.at_)))
 else (
 F_c0_j1 n f_c0 f_h0 f_m0 depth b0_)
def F_h0_j1 (n : Nat) (f_c0 : Int → PPz → Option (Pn (List Stmt) Int)) (f_h0 : Int → PPz → Option (Pn Stmt Int)) (f_m0 : Int → PPz → Option (Pn Stmt Int)) (b0_ : PPz) (r70 : Expr) (r74 : (List Stmt)) (v82 : Int) (v83 : List Stmt) : Option (Pn Stmt Int) :=
 some (.ret (⟨5, ([] : List UInt8), 0, r70, (⟨0, 0, ([] : List UInt8), ([] : List Expr)⟩ : Expr), r74, v83⟩ : Stmt) v82)
def B_h0 (n : Nat) (f_c0 : Int → PPz → Option (Pn (List Stmt) Int)) (f_h0 : Int → PPz → Option (Pn Stmt Int)) (f_m0 : Int → PPz → Option (Pn Stmt Int)) (depth : Int) (b0_ : PPz) : Option (Pn Stmt Int) :=
 Option.bind (F_w0 n ([108, 101, 116] : List UInt8) b0_) fun r1 =>
 bif r1.1 then (
 Option.bind (F_r0 n 1 (⟨b0_.tokens, r1.2⟩ : PPz)) fun r3 =>
 Pn.on r3 (fun r4 r5 =>
 Option.bind (F_g0 n ([61] : List UInt8) (⟨b0_.tokens, r5⟩ : PPz)) fun r7 =>
 Pn.on r7 (fun r8 r9 =>
 Option.bind (F_a0 n 1 0 (⟨b0_.tokens, r9⟩ : PPz)) fun r11 =>
 Pn.on r11 (fun r12 r13 =>
 Option.bind (F_y0 n (⟨1, r4.Text, 0, r12, (⟨0, 0, ([] : List UInt8), ([] : List Expr)⟩ : Expr), ([] : List Stmt), ([] : List Stmt)⟩ : Stmt) (⟨b0_.tokens, r13⟩ : PPz)) fun r15 =>
 Pn.on r15 (fun r16 r17 =>
 some (.ret (⟨r16.Op, r16.Name, r16.Max, (⟨r16.A.Op, r16.A.N, r16.A.S, r16.A.Args⟩ : Expr), (⟨r16.B.Op, r16.B.N, r16.B.S, r16.B.Args⟩ : Expr), r16.Body, r16.Else⟩ : Stmt) r17)) (fun x18 r17 =>
 some (.pan x18 r17))) (fun x14 r13 =>
 some (.pan x14 r13))) (fun x10 r9 =>
 some (.pan x10 r9))) (fun x6 r5 =>
 some (.pan x6 r5)))
 else (
 Option.bind (F_w0 n ([112, 117, 116] : List UInt8) (⟨b0_.tokens, r1.2⟩ : PPz)) fun r19 =>
 bif r19.1 then (
 Option.bind (F_a0 n 1 0 (⟨b0_.tokens, r19.2⟩ : PPz)) fun r21 =>
 Pn.on r21 (fun r22 r23 =>
 Option.bind (F_g0 n ([61] : List UInt8) (⟨b0_.tokens, r23⟩ : PPz)) fun r25 =>
 Pn.on r25 (fun r26 r27 =>
 Option.bind (F_a0 n 1 0 (⟨b0_.tokens, r27⟩ : PPz)) fun r29 =>
 Pn.on r29 (fun r30 r31 =>
 Option.bind (F_y0 n (⟨3, ([] : List UInt8), 0, r22, r30, ([] : List Stmt), ([] : List Stmt)⟩ : Stmt) (⟨b0_.tokens, r31⟩ : PPz)) fun r33 =>
 Pn.on r33 (fun r34 r35 =>
 some (.ret (⟨r34.Op, r34.Name, r34.Max, (⟨r34.A.Op, r34.A.N, r34.A.S, r34.A.Args⟩ : Expr), (⟨r34.B.Op, r34.B.N, r34.B.S, r34.B.Args⟩ : Expr), r34.Body, r34.Else⟩ : Stmt) r35)) (fun x36 r35 =>
 some (.pan x36 r35))) (fun x32 r31 =>
 some (.pan x32 r31))) (fun x28 r27 =>
 some (.pan x28 r27))) (fun x24 r23 =>
 some (.pan x24 r23)))
 else (
 Option.bind (F_w0 n ([100, 101, 108, 101, 116, 101] : List UInt8) (⟨b0_.tokens, r19.2⟩ : PPz)) fun r37 =>
 bif r37.1 then (
 Option.bind (F_a0 n 1 0 (⟨b0_.tokens, r37.2⟩ : PPz)) fun r39 =>
 Pn.on r39 (fun r40 r41 =>
 Option.bind (F_y0 n (⟨4, ([] : List UInt8), 0, r40, (⟨0, 0, ([] : List UInt8), ([] : List Expr)⟩ : Expr), ([] : List Stmt), ([] : List Stmt)⟩ : Stmt) (⟨b0_.tokens, r41⟩ : PPz)) fun r43 =>
 Pn.on r43 (fun r44 r45 =>
 some (.ret (⟨r44.Op, r44.Name, r44.Max, (⟨r44.A.Op, r44.A.N, r44.A.S, r44.A.Args⟩ : Expr), (⟨r44.B.Op, r44.B.N, r44.B.S, r44.B.Args⟩ : Expr), r44.Body, r44.Else⟩ : Stmt) r45)) (fun x46 r45 =>
 some (.pan x46 r45))) (fun x42 r41 =>
 some (.pan x42 r41)))
 else (
 Option.bind (F_w0 n ([101, 109, 105, 116] : List UInt8) (⟨b0_.tokens, r37.2⟩ : PPz)) fun r47 =>
 bif r47.1 then (
 Option.bind (F_a0 n 1 0 (⟨b0_.tokens, r47.2⟩ : PPz)) fun r49 =>
 Pn.on r49 (fun r50 r51 =>
 Option.bind (F_y0 n (⟨7, ([] : List UInt8), 0, r50, (⟨0, 0, ([] : List UInt8), ([] : List Expr)⟩ : Expr), ([] : List Stmt), ([] : List Stmt)⟩ : Stmt) (⟨b0_.tokens, r51⟩ : PPz)) fun r53 =>
 Pn.on r53 (fun r54 r55 =>
 some (.ret (⟨r54.Op, r54.Name, r54.Max, (⟨r54.A.Op, r54.A.N, r54.A.S, r54.A.Args⟩ : Expr), (⟨r54.B.Op, r54.B.N, r54.B.S, r54.B.Args⟩ : Expr), r54.Body, r54.Else⟩ : Stmt) r55)) (fun x56 r55 =>
 some (.pan x56 r55))) (fun x52 r51 =>
 some (.pan x52 r51)))
 else (
 Option.bind (F_w0 n ([97, 98, 111, 114, 116] : List UInt8) (⟨b0_.tokens, r47.2⟩ : PPz)) fun r57 =>
 bif r57.1 then (
 Option.bind (F_r0 n 3 (⟨b0_.tokens, r57.2⟩ : PPz)) fun r59 =>
 Pn.on r59 (fun r60 r61 =>
 Option.bind (F_y0 n (⟨8, ([] : List UInt8), r60.N, (⟨0, 0, ([] : List UInt8), ([] : List Expr)⟩ : Expr), (⟨0, 0, ([] : List UInt8), ([] : List Expr)⟩ : Expr), ([] : List Stmt), ([] : List Stmt)⟩ : Stmt) (⟨b0_.tokens, r61⟩ : PPz)) fun r63 =>
 Pn.on r63 (fun r64 r65 =>
 some (.ret (⟨r64.Op, r64.Name, r64.Max, (⟨r64.A.Op, r64.A.N, r64.A.S, r64.A.Args⟩ : Expr), (⟨r64.B.Op, r64.B.N, r64.B.S, r64.B.Args⟩ : Expr), r64.Body, r64.Else⟩ : Stmt) r65)) (fun x66 r65 =>
 some (.pan x66 r65))) (fun x62 r61 =>
 some (.pan x62 r61)))
 else (
 Option.bind (F_w0 n ([105, 102] : List UInt8) (⟨b0_.tokens, r57.2⟩ : PPz)) fun r67 =>
 bif r67.1 then (
 Option.bind (F_a0 n 1 0 (⟨b0_.tokens, r67.2⟩ : PPz)) fun r69 =>
 Pn.on r69 (fun r70 r71 =>
 Option.bind (f_c0 depth (⟨b0_.tokens, r71⟩ : PPz)) fun r73 =>
 Pn.on r73 (fun r74 r75 =>
 Option.bind (F_w0 n ([101, 108, 115, 101] : List UInt8) (⟨b0_.tokens, r75⟩ : PPz)) fun r77 =>
 bif r77.1 then (
 Option.bind (f_c0 depth (⟨b0_.tokens, r77.2⟩ : PPz)) fun r78 =>
 Pn.on r78 (fun r79 r80 =>
 F_h0_j1 n f_c0 f_h0 f_m0 b0_ r70 r74 r80 r79) (fun x81 r80 =>
 some (.pan x81 r80)))
 else (
 F_h0_j1 n f_c0 f_h0 f_m0 b0_ r70 r74 r77.2 ([] : List Stmt))) (fun x76 r75 =>
 some (.pan x76 r75))) (fun x72 r71 =>
 some (.pan x72 r71)))
 else (
 Option.bind (F_w0 n ([102, 111, 114] : List UInt8) (⟨b0_.tokens, r67.2⟩ : PPz)) fun r85 =>
 bif r85.1 then (
 Option.bind (f_m0 depth (⟨b0_.tokens, r85.2⟩ : PPz)) fun r87 =>
 Pn.on r87 (fun r88 r89 =>
 some (.ret (⟨r88.Op, r88.Name, r88.Max, (⟨r88.A.Op, r88.A.N, r88.A.S, r88.A.Args⟩ : Expr), (⟨r88.B.Op, r88.B.N, r88.B.S, r88.B.Args⟩ : Expr), r88.Body, r88.Else⟩ : Stmt) r89)) (fun x90 r89 =>
 some (.pan x90 r89)))
 else (
 Option.bind (F_r0 n 1 (⟨b0_.tokens, r85.2⟩ : PPz)) fun r91 =>
 Pn.on r91 (fun r92 r93 =>
 Option.bind (F_g0 n ([61] : List UInt8) (⟨b0_.tokens, r93⟩ : PPz)) fun r95 =>
 Pn.on r95 (fun r96 r97 =>
 Option.bind (F_a0 n 1 0 (⟨b0_.tokens, r97⟩ : PPz)) fun r99 =>
 Pn.on r99 (fun r100 r101 =>
 Option.bind (F_y0 n (⟨2, r92.Text, 0, r100, (⟨0, 0, ([] : List UInt8), ([] : List Expr)⟩ : Expr), ([] : List Stmt), ([] : List Stmt)⟩ : Stmt) (⟨b0_.tokens, r101⟩ : PPz)) fun r103 =>
 Pn.on r103 (fun r104 r105 =>
 some (.ret (⟨r104.Op, r104.Name, r104.Max, (⟨r104.A.Op, r104.A.N, r104.A.S, r104.A.Args⟩ : Expr), (⟨r104.B.Op, r104.B.N, r104.B.S, r104.B.Args⟩ : Expr), r104.Body, r104.Else⟩ : Stmt) r105)) (fun x106 r105 =>
 some (.pan x106 r105))) (fun x102 r101 =>
 some (.pan x102 r101))) (fun x98 r97 =>
 some (.pan x98 r97))) (fun x94 r93 =>
 some (.pan x94 r93)))))))))
def B_m0 (n : Nat) (f_c0 : Int → PPz → Option (Pn (List Stmt) Int)) (f_h0 : Int → PPz → Option (Pn Stmt Int)) (f_m0 : Int → PPz → Option (Pn Stmt Int)) (depth : Int) (b0_ : PPz) : Option (Pn Stmt Int) :=
 Option.bind (F_r0 n 1 b0_) fun r1 =>
 Pn.on r1 (fun r2 r3 =>
 Option.bind (F_g0 n ([61] : List UInt8) (⟨b0_.tokens, r3⟩ : PPz)) fun r5 =>
 Pn.on r5 (fun r6 r7 =>
 Option.bind (F_a0 n 1 0 (⟨b0_.tokens, r7⟩ : PPz)) fun r9 =>
 Pn.on r9 (fun r10 r11 =>
 Option.bind (F_g0 n ([116, 111] : List UInt8) (⟨b0_.tokens, r11⟩ : PPz)) fun r13 =>
 Pn.on r13 (fun r14 r15 =>
 Option.bind (F_a0 n 1 0 (⟨b0_.tokens, r15⟩ : PPz)) fun r17 =>
 Pn.on r17 (fun r18 r19 =>
 Option.bind (F_g0 n ([109, 97, 120] : List UInt8) (⟨b0_.tokens, r19⟩ : PPz)) fun r21 =>
 Pn.on r21 (fun r22 r23 =>
 Option.bind (F_r0 n 3 (⟨b0_.tokens, r23⟩ : PPz)) fun r25 =>
 Pn.on r25 (fun r26 r27 =>
 Option.bind (f_c0 depth (⟨b0_.tokens, r27⟩ : PPz)) fun r29 =>
 Pn.on r29 (fun r30 r31 =>
 some (.ret (⟨6, r2.Text, r26.N, r10, r18, r30, ([] : List Stmt)⟩ : Stmt) r31)) (fun x32 r31 =>
 some (.pan x32 r31))) (fun x28 r27 =>
 some (.pan x28 r27))) (fun x24 r23 =>
 some (.pan x24 r23))) (fun x20 r19 =>
 some (.pan x20 r19))) (fun x16 r15 =>
 some (.pan x16 r15))) (fun x12 r11 =>
 some (.pan x12 r11))) (fun x8 r7 =>
 some (.pan x8 r7))) (fun x4 r3 =>
 some (.pan x4 r3))
def FS_c0 : Nat → (Int → PPz → Option (Pn (List Stmt) Int)) × (Int → PPz → Option (Pn Stmt Int)) × (Int → PPz → Option (Pn Stmt Int))
 | 0 => (fun _ _ => none, fun _ _ => none, fun _ _ => none)
 | m + 1 => (B_c0 m ((FS_c0 m).1) ((FS_c0 m).2.1) ((FS_c0 m).2.2), B_h0 m ((FS_c0 m).1) ((FS_c0 m).2.1) ((FS_c0 m).2.2), B_m0 m ((FS_c0 m).1) ((FS_c0 m).2.1) ((FS_c0 m).2.2))
def F_c0 (n : Nat) : Int → PPz → Option (Pn (List Stmt) Int) := (FS_c0 n).1
def F_h0 (n : Nat) : Int → PPz → Option (Pn Stmt Int) := (FS_c0 n).2.1
def F_m0 (n : Nat) : Int → PPz → Option (Pn Stmt Int) := (FS_c0 n).2.2
def F_af0_j1 (n : Nat) (b0_ : PPz) (r2 : Token) (v16 : Int) (v17 : Int) : Option (Pn Param Int) :=
 some (.ret (⟨r2.Text, v17⟩ : Param) v16)
def F_af0 (n : Nat) (b0_ : PPz) : Option (Pn Param Int) :=
 Option.bind (F_r0 n 1 b0_) fun r1 =>
 Pn.on r1 (fun r2 r3 =>
 Option.bind (F_g0 n ([58] : List UInt8) (⟨b0_.tokens, r3⟩ : PPz)) fun r5 =>
 Pn.on r5 (fun r6 r7 =>
 Option.bind (F_w0 n ([105, 110, 116] : List UInt8) (⟨b0_.tokens, r7⟩ : PPz)) fun r9 =>
 bif r9.1 then (
 F_af0_j1 n b0_ r2 r9.2 1)
 else (
 Option.bind (F_w0 n ([115, 116, 114] : List UInt8) (⟨b0_.tokens, r9.2⟩ : PPz)) fun r10 =>
 bif r10.1 then (
 F_af0_j1 n b0_ r2 r10.2 2)
 else (
 Option.bind (F_w0 n ([98, 111, 111, 108] : List UInt8) (⟨b0_.tokens, r10.2⟩ : PPz)) fun r11 =>
 bif r11.1 then (
 F_af0_j1 n b0_ r2 r11.2 3)
 else (
 Option.bind (F_t0 n 5 (⟨b0_.tokens, r11.2⟩ : PPz)) fun r12 =>
 Pn.on r12 (fun r13 r14 =>
 F_af0_j1 n b0_ r2 r11.2 0) (fun x15 r14 =>
 some (.pan x15 r11.2)))))) (fun x8 r7 =>
 some (.pan x8 r7))) (fun x4 r3 =>
 some (.pan x4 r3))
def F_k0_j1 (n : Nat) (b0_ : PPz) (r6 : Token) (v43 : Int) (v44 : List Param) : Option (Pn Proc Int) :=
 Option.bind (F_c0 n 0 (⟨b0_.tokens, v43⟩ : PPz)) fun r45 =>
 Pn.on r45 (fun r46 r47 =>
 some (.ret (⟨r6.Text, v44, r46⟩ : Proc) r47)) (fun x48 r47 =>
 some (.pan x48 r47))
def F_k0_j2 (n : Nat) (b0_ : PPz) (r6 : Token) (v37 : Int) (v38 : List Param) : Option (Pn Proc Int) :=
 Option.bind (F_g0 n ([41] : List UInt8) (⟨b0_.tokens, v37⟩ : PPz)) fun r39 =>
 Pn.on r39 (fun r40 r41 =>
 F_k0_j1 n b0_ r6 r41 v38) (fun x42 r41 =>
 some (.pan x42 r41))
def F_k0_b3 (n : Nat) (b0_ : PPz) (r6 : Token) (k3 : Int → (List Param) → Option (Pn Proc Int)) (v27 : Int) (v28 : List Param) : Option (Pn Proc Int) :=
 Option.bind (F_w0 n ([44] : List UInt8) (⟨b0_.tokens, v27⟩ : PPz)) fun r29 =>
 bif r29.1 then (
 Option.bind (F_af0 n (⟨b0_.tokens, r29.2⟩ : PPz)) fun r30 =>
 Pn.on r30 (fun r31 r32 =>
 ass (room (v28.length + ([r31] : List Param).length) 24) <|
 k3 r32 (v28 ++ ([r31] : List Param))) (fun x33 r32 =>
 some (.pan x33 r32)))
 else (
 F_k0_j2 n b0_ r6 r29.2 v28)
def F_k0_l3 (n : Nat) (b0_ : PPz) (r6 : Token) : Nat → Int → (List Param) → Option (Pn Proc Int)
 | 0 => fun _ _ => none
 | m + 1 => F_k0_b3 n b0_ r6 (F_k0_l3 n b0_ r6 m)
def F_k0 (n : Nat) (b0_ : PPz) : Option (Pn Proc Int) :=
 Option.bind (F_g0 n ([112, 114, 111, 99] : List UInt8) b0_) fun r1 =>
 Pn.on r1 (fun r2 r3 =>
 Option.bind (F_r0 n 1 (⟨b0_.tokens, r3⟩ : PPz)) fun r5 =>
 Pn.on r5 (fun r6 r7 =>
 Option.bind (F_g0 n ([40] : List UInt8) (⟨b0_.tokens, r7⟩ : PPz)) fun r9 =>
 Pn.on r9 (fun r10 r11 =>
 Option.bind (F_w0 n ([41] : List UInt8) (⟨b0_.tokens, r11⟩ : PPz)) fun r13 =>
 bif (!r13.1) then (
 Option.bind (F_af0 n (⟨b0_.tokens, r13.2⟩ : PPz)) fun r14 =>
 Pn.on r14 (fun r15 r16 =>
 ass (room (([] : List Param).length + ([r15] : List Param).length) 24) <|
 F_k0_l3 n b0_ r6 n r16 (([] : List Param) ++ ([r15] : List Param))) (fun x17 r16 =>
 some (.pan x17 r16)))
 else (
 F_k0_j1 n b0_ r6 r13.2 ([] : List Param))) (fun x12 r11 =>
 some (.pan x12 r11))) (fun x8 r7 =>
 some (.pan x8 r7))) (fun x4 r3 =>
 some (.pan x4 r3))
def F_dq0 (n : Nat) (b0_ : PPz) (b1_ : Proc) : Option (Pn Unit (Int × (List UInt8) × (List Param) × (List Stmt))) :=
 Option.bind (F_k0 n b0_) fun r1 =>
 Pn.on r1 (fun r2 r3 =>
 some (.ret () (r3, r2.Name, r2.Params, r2.Body))) (fun x4 r3 =>
 some (.pan x4 (r3, b1_.Name, b1_.Params, b1_.Body)))
def F_bt0 (n : Nat) (src : List UInt8) (b0_ : Proc) : Option (Int × Int × (List UInt8) × (List Param) × (List Stmt)) :=
 Option.bind (F_p0 n src) fun r1 =>
 bif (!decide (r1.2.2 = 0)) then some (r1.2.1, r1.2.2, b0_.Name, b0_.Params, b0_.Body)
 else Option.bind (F_dq0 n (⟨r1.1, 0⟩ : PPz) b0_) fun r2 =>
 Pn.on r2 (fun za zm =>
 bif decide (zm.1 < ((r1.1.length : Nat) : Int)) then Option.bind (F_t0 n 5 (⟨r1.1, zm.1⟩ : PPz)) fun r3 => Pn.on r3 (fun zb zc => none) (fun zx zc => Option.bind (asFail 114 zx) fun lc => some (lc.1, lc.2, zm.2.1, zm.2.2.1, zm.2.2.2))
 else some (0, 0, zm.2.1, zm.2.2.1, zm.2.2.2))
 (fun zx zm => Option.bind (asFail 114 zx) fun lc => some (lc.1, lc.2, zm.2.1, zm.2.2.1, zm.2.2.2))
def F_am0_j1 (n : Nat) (r1 : Int × Int × (List UInt8) × (List Param) × (List Stmt)) (v3 : Int) : Option (Proc × Int × Int) :=
 bif (!decide (v3 = 0)) then (
 some ((⟨([] : List UInt8), ([] : List Param), ([] : List Stmt)⟩ : Proc), r1.1, v3))
 else (
 some ((⟨r1.2.2.1, r1.2.2.2.1, r1.2.2.2.2⟩ : Proc), 0, 0))
def F_am0 (n : Nat) (src : List UInt8) : Option (Proc × Int × Int) :=
 Option.bind (F_bt0 n src (⟨([] : List UInt8), ([] : List Param), ([] : List Stmt)⟩ : Proc)) fun r1 =>
 bif (decide (r1.2.1 = 0)) then (
 Option.bind (F_bw0 n (⟨r1.2.2.1, r1.2.2.2.1, r1.2.2.2.2⟩ : Proc)) fun r2 =>
 F_am0_j1 n r1 r2)
 else (
 F_am0_j1 n r1 r1.2.1)
def F_bb0_j1 (n : Nat) : Option Int :=
 some 0
def F_bb0_j3 (n : Nat) (k2 : Int → Option Int) (l : List Proc) (v11 : Int) : Option Int :=
 k2 (IntKind.i64.wrap (v11 + 1))
def F_bb0_b4 (n : Nat) (k2 : Int → Option Int) (l : List Proc) (v11 : Int) (k4 : Int → Option Int) (v17 : Int) : Option Int :=
 bif (decide (v17 < (((l.take (v11).toNat).length : Nat) : Int))) then (
 ass (inB v17 (l.take (v11).toNat).length) <|
 bif (decide ((((l.take (v11).toNat).getD (v17).toNat default).Name) = ((l.getD (v11).toNat default).Name))) then (
 some 8)
 else (
 k4 (IntKind.i64.wrap (v17 + 1))))
 else (
 F_bb0_j3 n k2 l v11)
def F_bb0_l4 (n : Nat) (k2 : Int → Option Int) (l : List Proc) (v11 : Int) : Nat → Int → Option Int
 | 0 => fun _ => none
 | m + 1 => F_bb0_b4 n k2 l v11 (F_bb0_l4 n k2 l v11 m)
def F_bb0_b2 (n : Nat) (l : List Proc) (k2 : Int → Option Int) (v11 : Int) : Option Int :=
 bif (decide (v11 < ((l.length : Nat) : Int))) then (
 ass (inB v11 l.length) <|
 Option.bind (F_bw0 n (l.getD (v11).toNat default)) fun r13 =>
 bif (!decide (r13 = 0)) then (
 some r13)
 else (
 ass (upB v11 l.length) <|
 F_bb0_l4 n k2 l v11 n 0))
 else (
 F_bb0_j1 n)
def F_bb0_l2 (n : Nat) (l : List Proc) : Nat → Int → Option Int
 | 0 => fun _ => none
 | m + 1 => F_bb0_b2 n l (F_bb0_l2 n l m)
def F_bb0 (n : Nat) (l : List Proc) : Option Int :=
 bif (decide (16 < ((l.length : Nat) : Int))) then (
 some 2)
 else (
 F_bb0_l2 n l n 0)
def F_cd0_b1 (n : Nat) (b0_ : PPz) (k1 : Int → (List Proc) → Option (Pn Unit (Int × (List Proc)))) (v8 : Int) (v9 : List Proc) : Option (Pn Unit (Int × (List Proc))) :=
 bif (decide (v8 < ((b0_.tokens.length : Nat) : Int))) then (
 Option.bind (F_k0 n (⟨b0_.tokens, v8⟩ : PPz)) fun r10 =>
 Pn.on r10 (fun r11 r12 =>
 ass (room (v9.length + ([r11] : List Proc).length) 64) <|
 k1 r12 (v9 ++ ([r11] : List Proc))) (fun x13 r12 =>
 some (.pan x13 (r12, v9))))
 else (
 some (.ret () (v8, v9)))
def F_cd0_l1 (n : Nat) (b0_ : PPz) : Nat → Int → (List Proc) → Option (Pn Unit (Int × (List Proc)))
 | 0 => fun _ _ => none
 | m + 1 => F_cd0_b1 n b0_ (F_cd0_l1 n b0_ m)
def F_cd0 (n : Nat) (b0_ : PPz) (b1_ : List Proc) : Option (Pn Unit (Int × (List Proc))) :=
 F_cd0_l1 n b0_ n b0_.at_ b1_
def F_cs0 (n : Nat) (src : List UInt8) (b0_ : List Proc) : Option (Int × Int × (List Proc)) :=
 Option.bind (F_p0 n src) fun r1 =>
 bif (!decide (r1.2.2 = 0)) then some (r1.2.1, r1.2.2, b0_)
 else Option.bind (F_cd0 n (⟨r1.1, 0⟩ : PPz) b0_) fun r2 =>
 Pn.on r2 (fun za zm =>
 bif decide (zm.1 < ((r1.1.length : Nat) : Int)) then Option.bind (F_t0 n 5 (⟨r1.1, zm.1⟩ : PPz)) fun r3 => Pn.on r3 (fun zb zc => none) (fun zx zc => Option.bind (asFail 114 zx) fun lc => some (lc.1, lc.2, zm.2))
 else some (0, 0, zm.2))
 (fun zx zm => Option.bind (asFail 114 zx) fun lc => some (lc.1, lc.2, zm.2))
def F_de0_j1 (n : Nat) (r1 : Int × Int × (List Proc)) (v3 : Int) : Option ((List Proc) × Int × Int) :=
 bif (!decide (v3 = 0)) then (
 some (([] : List Proc), r1.1, v3))
 else (
 some (r1.2.2, 0, 0))
def F_de0 (n : Nat) (src : List UInt8) : Option ((List Proc) × Int × Int) :=
 Option.bind (F_cs0 n src ([] : List Proc)) fun r1 =>
 bif (decide (r1.2.1 = 0)) then (
 Option.bind (F_bb0 n r1.2.2) fun r2 =>
 F_de0_j1 n r1 r2)
 else (
 F_de0_j1 n r1 r1.2.1)
def F_db0 (n : Nat) : Option Bool :=
 Option.bind (F_cy0 n ([49, 32, 43, 32, 50, 32, 42, 32, 120] : List UInt8)) fun r1 =>
 Option.bind (F_cy0 n ([97, 32, 60, 32, 98, 32, 60, 32, 99] : List UInt8)) fun r2 =>
 Option.bind (F_cy0 n ([49, 32, 43] : List UInt8)) fun r3 =>
 Option.bind (F_am0 n ([112, 114, 111, 99, 32, 112, 40, 41, 32, 123, 10, 32, 32, 101, 109, 105, 116, 32, 120, 10, 125] : List UInt8)) fun r4 =>
 Option.bind (F_de0 n ([] : List UInt8)) fun r5 =>
 Option.bind (F_am0 n ([112, 114, 111, 99, 32, 112, 40, 41, 32, 123, 32, 97, 98, 111, 114, 116, 32, 49, 48, 48, 48, 59, 32, 125] : List UInt8)) fun r6 =>
 ass (!(bif (decide (r1.1.Op = 4)) then (decide (((r1.1.Args.length : Nat) : Int) = 2)) else false) || inB 1 r1.1.Args.length) <|
 some (bif (bif (bif (bif (bif (bif (bif (bif (bif (bif (bif (bif (bif (decide (r1.1.Op = 4)) then (decide (((r1.1.Args.length : Nat) : Int) = 2)) else false) then (decide ((r1.1.Args.getD 1 default).Op = 6)) else false) then (decide (r1.2.1 = 0)) else false) then (decide (r1.2.2 = 0)) else false) then (decide (r2.2.2 = 5)) else false) then (decide (r3.2.1 = 1)) else false) then (decide (r3.2.2 = 6)) else false) then (decide (r4.2.1 = 3)) else false) then (decide (r4.2.2 = 5)) else false) then (decide (((r5.1.length : Nat) : Int) = 0)) else false) then (decide (r5.2.2 = 0)) else false) then (decide (r6.2.1 = 0)) else false) then (decide (r6.2.2 = 1)) else false)
def F_bz0_j1 (n : Nat) (v11 : Int) : Option Int :=
 some v11
def F_bz0_j3 (n : Nat) (k2 : Int → Int → Option Int) (s : List UInt8) (at_ : Int) (v6 : Int) (v8 : Int) : Option Int :=
 k2 v8 (IntKind.i64.wrap (v6 + 1))
def F_bz0_b2 (n : Nat) (s : List UInt8) (at_ : Int) (k2 : Int → Int → Option Int) (v5 : Int) (v6 : Int) : Option Int :=
 bif (decide (v6 < at_)) then (
 ass (inB v6 s.length) <|
 bif (decide ((((s.getD (v6).toNat 0).toNat : Nat) : Int) = 10)) then (
 F_bz0_j3 n k2 s at_ v6 (IntKind.i64.wrap (v5 + 1)))
 else (
 F_bz0_j3 n k2 s at_ v6 v5))
 else (
 F_bz0_j1 n v5)
def F_bz0_l2 (n : Nat) (s : List UInt8) (at_ : Int) : Nat → Int → Int → Option Int
 | 0 => fun _ _ => none
 | m + 1 => F_bz0_b2 n s at_ (F_bz0_l2 n s at_ m)
def F_bz0 (n : Nat) (s : List UInt8) (at_ : Int) : Option Int :=
 F_bz0_l2 n s at_ n 0 0
def F_bn0_j1 (n : Nat) (v22 : Int) : Option Int :=
 some v22
def F_bn0_b3 (n : Nat) (k2 : Int → Option Int) (s : List UInt8) (k3 : Int → Option Int) (v15 : Int) : Option Int :=
 ass (!(decide (v15 < ((s.length : Nat) : Int))) || inB v15 s.length) <|
 bif (bif (decide (v15 < ((s.length : Nat) : Int))) then (!decide ((((s.getD (v15).toNat 0).toNat : Nat) : Int) = 10)) else false) then (
 k3 (IntKind.i64.wrap (v15 + 1)))
 else (
 k2 v15)
def F_bn0_l3 (n : Nat) (k2 : Int → Option Int) (s : List UInt8) : Nat → Int → Option Int
 | 0 => fun _ => none
 | m + 1 => F_bn0_b3 n k2 s (F_bn0_l3 n k2 s m)
def F_bn0_b2 (n : Nat) (s : List UInt8) (k2 : Int → Option Int) (v11 : Int) : Option Int :=
 bif (decide (v11 < ((s.length : Nat) : Int))) then (
 ass (inB v11 s.length) <|
 bif (decide ((((s.getD (v11).toNat 0).toNat : Nat) : Int) = 35)) then (
 F_bn0_l3 n k2 s n v11)
 else (
 ass (inB v11 s.length) <|
 ass ((decide ((((s.getD (v11).toNat 0).toNat : Nat) : Int) = 32)) || inB v11 s.length) <|
 ass ((bif (decide ((((s.getD (v11).toNat 0).toNat : Nat) : Int) = 32)) then true else (decide ((((s.getD (v11).toNat 0).toNat : Nat) : Int) = 9))) || inB v11 s.length) <|
 bif (bif (bif (decide ((((s.getD (v11).toNat 0).toNat : Nat) : Int) = 32)) then true else (decide ((((s.getD (v11).toNat 0).toNat : Nat) : Int) = 9))) then true else (decide ((((s.getD (v11).toNat 0).toNat : Nat) : Int) = 10))) then (
 k2 (IntKind.i64.wrap (v11 + 1)))
 else (
 some v11)))
 else (
 F_bn0_j1 n v11)
def F_bn0_l2 (n : Nat) (s : List UInt8) : Nat → Int → Option Int
 | 0 => fun _ => none
 | m + 1 => F_bn0_b2 n s (F_bn0_l2 n s m)
def F_bn0 (n : Nat) (s : List UInt8) (at_ : Int) : Option Int :=
 F_bn0_l2 n s n at_
def F_fd0 (n : Nat) : Option (List (List UInt8)) :=
 some ([([61, 61] : List UInt8), ([33, 61] : List UInt8), ([60, 61] : List UInt8), ([62, 61] : List UInt8), ([43, 43] : List UInt8), ([40] : List UInt8), ([41] : List UInt8), ([123] : List UInt8), ([125] : List UInt8), ([44] : List UInt8), ([59] : List UInt8), ([58] : List UInt8), ([61] : List UInt8), ([60] : List UInt8), ([62] : List UInt8), ([43] : List UInt8), ([45] : List UInt8), ([42] : List UInt8), ([47] : List UInt8), ([37] : List UInt8)] : List (List UInt8))
def F_ck0_j1 (n : Nat) (s : List UInt8) : Option Bool :=
 ass (!(decide (0 < ((s.length : Nat) : Int))) || inB 0 s.length) <|
 some (bif (decide (0 < ((s.length : Nat) : Int))) then (bif (!decide ((((s.getD 0 0).toNat : Nat) : Int) = 48)) then true else (decide (((s.length : Nat) : Int) = 1))) else false)
def F_ck0_b2 (n : Nat) (s : List UInt8) (k2 : Int → Option Bool) (v4 : Int) : Option Bool :=
 bif (decide (v4 < ((s.length : Nat) : Int))) then (
 ass (inB v4 s.length) <|
 ass ((decide ((((s.getD (v4).toNat 0).toNat : Nat) : Int) < 48)) || inB v4 s.length) <|
 bif (bif (decide ((((s.getD (v4).toNat 0).toNat : Nat) : Int) < 48)) then true else (decide (57 < (((s.getD (v4).toNat 0).toNat : Nat) : Int)))) then (
 some false)
 else (
 k2 (IntKind.i64.wrap (v4 + 1))))
 else (
 F_ck0_j1 n s)
def F_ck0_l2 (n : Nat) (s : List UInt8) : Nat → Int → Option Bool
 | 0 => fun _ => none
 | m + 1 => F_ck0_b2 n s (F_ck0_l2 n s m)
def F_ck0 (n : Nat) (s : List UInt8) : Option Bool :=
 F_ck0_l2 n s n 0
def F_ca0_j2 (n : Nat) (s : List UInt8) (v15 : Int) : Option (Int × Int) :=
 bif (bif (decide (0 < ((s.length : Nat) : Int))) then (decide ((((s.getD 0 0).toNat : Nat) : Int) = 45)) else false) then (
 some ((IntKind.i64.wrap (IntKind.u64.wrap (0 - v15))), 0))
 else (
 some ((IntKind.i64.wrap v15), 0))
def F_ca0_b3 (n : Nat) (s : List UInt8) (v3 : List UInt8) (v4 : Int) (k3 : Int → Int → Option (Int × Int)) (v10 : Int) (v11 : Int) : Option (Int × Int) :=
 bif (decide (v11 < ((v3.length : Nat) : Int))) then (
 ass (inB v11 v3.length) <|
 bif (decide ((IntKind.u64.wrap (Int.tdiv (IntKind.u64.wrap (v4 - (IntKind.u64.wrap (IntKind.u8.wrap ((((v3.getD (v11).toNat 0).toNat : Nat) : Int) - 48))))) 10)) < v10)) then (
 some (0, 3))
 else (
 k3 (IntKind.u64.wrap ((IntKind.u64.wrap (v10 * 10)) + (IntKind.u64.wrap (IntKind.u8.wrap ((((v3.getD (v11).toNat 0).toNat : Nat) : Int) - 48))))) (IntKind.i64.wrap (v11 + 1))))
 else (
 F_ca0_j2 n s v10)
def F_ca0_l3 (n : Nat) (s : List UInt8) (v3 : List UInt8) (v4 : Int) : Nat → Int → Int → Option (Int × Int)
 | 0 => fun _ _ => none
 | m + 1 => F_ca0_b3 n s v3 v4 (F_ca0_l3 n s v3 v4 m)
def F_ca0_j1 (n : Nat) (s : List UInt8) (v3 : List UInt8) (v4 : Int) : Option (Int × Int) :=
 Option.bind (F_ck0 n v3) fun r5 =>
 bif (bif (!r5) then true else (bif (bif (decide (0 < ((s.length : Nat) : Int))) then (decide ((((s.getD 0 0).toNat : Nat) : Int) = 45)) else false) then (decide (v3 = ([48] : List UInt8))) else false)) then (
 some (0, 5))
 else (
 F_ca0_l3 n s v3 v4 n 0 0)
def F_ca0 (n : Nat) (s : List UInt8) : Option (Int × Int) :=
 ass (!(decide (0 < ((s.length : Nat) : Int))) || inB 0 s.length) <|
 bif (bif (decide (0 < ((s.length : Nat) : Int))) then (decide ((((s.getD 0 0).toNat : Nat) : Int) = 45)) else false) then (
 ass (upB 1 s.length) <|
 F_ca0_j1 n s (s.drop 1) 9223372036854775808)
 else (
 F_ca0_j1 n s s 9223372036854775807)
def F_ey0 (n : Nat) : Option (List (List UInt8)) :=
 some ([([112, 114, 111, 99] : List UInt8), ([108, 101, 116] : List UInt8), ([112, 117, 116] : List UInt8), ([100, 101, 108, 101, 116, 101] : List UInt8), ([105, 102] : List UInt8), ([101, 108, 115, 101] : List UInt8), ([102, 111, 114] : List UInt8), ([116, 111] : List UInt8), ([109, 97, 120] : List UInt8), ([101, 109, 105, 116] : List UInt8), ([97, 98, 111, 114, 116] : List UInt8), ([110, 111, 116] : List UInt8), ([97, 110, 100] : List UInt8), ([111, 114] : List UInt8), ([105, 110, 116] : List UInt8), ([115, 116, 114] : List UInt8), ([98, 111, 111, 108] : List UInt8), ([116, 101, 120, 116] : List UInt8), ([108, 101, 110] : List UInt8), ([103, 101, 116, 105, 110, 116] : List UInt8), ([103, 101, 116, 115, 116, 114] : List UInt8), ([104, 97, 115] : List UInt8), ([110, 111, 119] : List UInt8), ([114, 97, 110, 100, 111, 109] : List UInt8), ([110, 111, 100, 101] : List UInt8)] : List (List UInt8))
def F_df0_j1 (n : Nat) : Option Bool :=
 some false
def F_df0_b2 (n : Nat) (l : List (List UInt8)) (s : List UInt8) (k2 : Int → Option Bool) (v3 : Int) : Option Bool :=
 bif (decide (v3 < ((l.length : Nat) : Int))) then (
 ass (inB v3 l.length) <|
 bif (decide ((l.getD (v3).toNat default) = s)) then (
 some true)
 else (
 k2 (IntKind.i64.wrap (v3 + 1))))
 else (
 F_df0_j1 n)
def F_df0_l2 (n : Nat) (l : List (List UInt8)) (s : List UInt8) : Nat → Int → Option Bool
 | 0 => fun _ => none
 | m + 1 => F_df0_b2 n l s (F_df0_l2 n l s m)
def F_df0 (n : Nat) (l : List (List UInt8)) (s : List UInt8) : Option Bool :=
 F_df0_l2 n l s n 0
def F_em0 (n : Nat) (s : List UInt8) : Option Bool :=
 Option.bind (F_ey0 n) fun r1 =>
 Option.bind (F_df0 n r1 s) fun r2 =>
 some r2
def F_eo0 (n : Nat) (c : Int) : Option Bool :=
 some (bif (decide (97 ≤ c)) then (decide (c ≤ 122)) else false)
def F_fe0 (n : Nat) (c : Int) : Option Bool :=
 some (bif (decide (48 ≤ c)) then (decide (c ≤ 57)) else false)
def F_ev0 (n : Nat) (c : Int) : Option Bool :=
 Option.bind (F_eo0 n c) fun r1 =>
 Option.bind (bif (!r1) then F_fe0 n c else some default) fun r2 =>
 some (bif (bif r1 then true else r2) then true else (decide (c = 95)))
def F_cv0_j1 (n : Nat) (v8 : Int) : Option Int :=
 some v8
def F_cv0_b2 (n : Nat) (s : List UInt8) (k2 : Int → Option Int) (v4 : Int) : Option Int :=
 ass (!(decide (v4 < ((s.length : Nat) : Int))) || inB v4 s.length) <|
 Option.bind (bif (decide (v4 < ((s.length : Nat) : Int))) then F_ev0 n (((s.getD (v4).toNat 0).toNat : Nat) : Int) else some default) fun r6 =>
 bif (bif (decide (v4 < ((s.length : Nat) : Int))) then r6 else false) then (
 k2 (IntKind.i64.wrap (v4 + 1)))
 else (
 F_cv0_j1 n v4)
def F_cv0_l2 (n : Nat) (s : List UInt8) : Nat → Int → Option Int
 | 0 => fun _ => none
 | m + 1 => F_cv0_b2 n s (F_cv0_l2 n s m)
def F_cv0 (n : Nat) (s : List UInt8) (at_ : Int) : Option Int :=
 F_cv0_l2 n s n at_
def F_ee0 (n : Nat) (s : List UInt8) : Option Bool :=
 ass (!(bif (decide (1 ≤ ((s.length : Nat) : Int))) then (decide (((s.length : Nat) : Int) ≤ 16)) else false) || inB 0 s.length) <|
 Option.bind (bif (bif (decide (1 ≤ ((s.length : Nat) : Int))) then (decide (((s.length : Nat) : Int) ≤ 16)) else false) then F_eo0 n (((s.getD 0 0).toNat : Nat) : Int) else some default) fun r2 =>
 Option.bind (bif (bif (bif (decide (1 ≤ ((s.length : Nat) : Int))) then (decide (((s.length : Nat) : Int) ≤ 16)) else false) then r2 else false) then F_cv0 n s 0 else some default) fun r3 =>
 Option.bind (bif (bif (bif (bif (decide (1 ≤ ((s.length : Nat) : Int))) then (decide (((s.length : Nat) : Int) ≤ 16)) else false) then r2 else false) then (decide (r3 = ((s.length : Nat) : Int))) else false) then F_em0 n s else some default) fun r4 =>
 some (bif (bif (bif (bif (decide (1 ≤ ((s.length : Nat) : Int))) then (decide (((s.length : Nat) : Int) ≤ 16)) else false) then r2 else false) then (decide (r3 = ((s.length : Nat) : Int))) else false) then (!r4) else false)
def F_ez0 (n : Nat) (w : List UInt8) : Option (Token × Int) :=
 ass (inB 0 w.length) <|
 Option.bind (F_eo0 n (((w.getD 0 0).toNat : Nat) : Int)) fun r2 =>
 bif r2 then (
 Option.bind (F_em0 n w) fun r4 =>
 bif r4 then (
 some ((⟨2, w, 0, 0⟩ : Token), 0))
 else (
 Option.bind (F_ee0 n w) fun r6 =>
 bif r6 then (
 some ((⟨1, w, 0, 0⟩ : Token), 0))
 else (
 some ((⟨0, ([] : List UInt8), 0, 0⟩ : Token), 2))))
 else (
 Option.bind (F_ca0 n w) fun r8 =>
 bif (!decide (r8.2 = 0)) then (
 some ((⟨0, ([] : List UInt8), 0, 0⟩ : Token), r8.2))
 else (
 some ((⟨3, ([] : List UInt8), r8.1, 0⟩ : Token), 0)))
def F_br0_j1 (n : Nat) (v19 : Int) : Option ((List UInt8) × Int × Int) :=
 some (([] : List UInt8), v19, 6)
def F_br0_j3 (n : Nat) (k2 : Int → (List UInt8) → Option ((List UInt8) × Int × Int)) (s : List UInt8) (v10 : List UInt8) (v14 : Int) : Option ((List UInt8) × Int × Int) :=
 bif (decide (((v10.length : Nat) : Int) = 64)) then (
 some (([] : List UInt8), v14, 2))
 else (
 ass (loB v14 (IntKind.i64.wrap (v14 + 1)) s.length) <|
 ass (strRoom (v10.length + ((s.take ((IntKind.i64.wrap (v14 + 1))).toNat).drop (v14).toNat).length)) <|
 k2 (IntKind.i64.wrap (v14 + 1)) (v10 ++ ((s.take ((IntKind.i64.wrap (v14 + 1))).toNat).drop (v14).toNat)))
def F_br0_b2 (n : Nat) (s : List UInt8) (k2 : Int → (List UInt8) → Option ((List UInt8) × Int × Int)) (v9 : Int) (v10 : List UInt8) : Option ((List UInt8) × Int × Int) :=
 bif (decide (v9 < ((s.length : Nat) : Int))) then (
 ass (inB v9 s.length) <|
 bif (decide ((((s.getD (v9).toNat 0).toNat : Nat) : Int) = 34)) then (
 some (v10, (IntKind.i64.wrap (v9 + 1)), 0))
 else (
 bif (decide ((((s.getD (v9).toNat 0).toNat : Nat) : Int) = 92)) then (
 bif (decide ((IntKind.i64.wrap (v9 + 1)) = ((s.length : Nat) : Int))) then (
 some (([] : List UInt8), (IntKind.i64.wrap (v9 + 1)), 6))
 else (
 ass (inB (IntKind.i64.wrap (v9 + 1)) s.length) <|
 ass (!(!decide ((((s.getD ((IntKind.i64.wrap (v9 + 1))).toNat 0).toNat : Nat) : Int) = 34)) || inB (IntKind.i64.wrap (v9 + 1)) s.length) <|
 bif (bif (!decide ((((s.getD ((IntKind.i64.wrap (v9 + 1))).toNat 0).toNat : Nat) : Int) = 34)) then (!decide ((((s.getD ((IntKind.i64.wrap (v9 + 1))).toNat 0).toNat : Nat) : Int) = 92)) else false) then (
 some (([] : List UInt8), (IntKind.i64.wrap (v9 + 1)), 5))
 else (
 F_br0_j3 n k2 s v10 (IntKind.i64.wrap (v9 + 1)))))
 else (
 bif (bif (decide ((((s.getD (v9).toNat 0).toNat : Nat) : Int) < 32)) then true else (decide (126 < (((s.getD (v9).toNat 0).toNat : Nat) : Int)))) then (
 some (([] : List UInt8), v9, 5))
 else (
 F_br0_j3 n k2 s v10 v9))))
 else (
 F_br0_j1 n v9)
def F_br0_l2 (n : Nat) (s : List UInt8) : Nat → Int → (List UInt8) → Option ((List UInt8) × Int × Int)
 | 0 => fun _ _ => none
 | m + 1 => F_br0_b2 n s (F_br0_l2 n s m)
def F_br0 (n : Nat) (s : List UInt8) (at_ : Int) : Option ((List UInt8) × Int × Int) :=
 F_br0_l2 n s n (IntKind.i64.wrap (at_ + 1)) ([] : List UInt8)
def F_cm0_j1 (n : Nat) (at_ : Int) : Option (Token × Int × Int) :=
 some ((⟨0, ([] : List UInt8), 0, 0⟩ : Token), at_, 5)
def F_cm0_b2 (n : Nat) (s : List UInt8) (at_ : Int) (r10 : (List (List UInt8))) (k2 : Int → Option (Token × Int × Int)) (v18 : Int) : Option (Token × Int × Int) :=
 bif (decide (v18 < ((r10.length : Nat) : Int))) then (
 ass (inB v18 r10.length) <|
 ass (!(decide ((IntKind.i64.wrap (at_ + (((r10.getD (v18).toNat default).length : Nat) : Int))) ≤ ((s.length : Nat) : Int))) || inB v18 r10.length) <|
 ass (!(decide ((IntKind.i64.wrap (at_ + (((r10.getD (v18).toNat default).length : Nat) : Int))) ≤ ((s.length : Nat) : Int))) || loB at_ (IntKind.i64.wrap (at_ + (((r10.getD (v18).toNat default).length : Nat) : Int))) s.length) <|
 ass (!(decide ((IntKind.i64.wrap (at_ + (((r10.getD (v18).toNat default).length : Nat) : Int))) ≤ ((s.length : Nat) : Int))) || inB v18 r10.length) <|
 bif (bif (decide ((IntKind.i64.wrap (at_ + (((r10.getD (v18).toNat default).length : Nat) : Int))) ≤ ((s.length : Nat) : Int))) then (decide (((s.take ((IntKind.i64.wrap (at_ + (((r10.getD (v18).toNat default).length : Nat) : Int)))).toNat).drop (at_).toNat) = (r10.getD (v18).toNat default))) else false) then (
 ass (inB v18 r10.length) <|
 ass (inB v18 r10.length) <|
 some ((⟨5, (r10.getD (v18).toNat default), 0, 0⟩ : Token), (IntKind.i64.wrap (at_ + (((r10.getD (v18).toNat default).length : Nat) : Int))), 0))
 else (
 k2 (IntKind.i64.wrap (v18 + 1))))
 else (
 F_cm0_j1 n at_)
def F_cm0_l2 (n : Nat) (s : List UInt8) (at_ : Int) (r10 : (List (List UInt8))) : Nat → Int → Option (Token × Int × Int)
 | 0 => fun _ => none
 | m + 1 => F_cm0_b2 n s at_ r10 (F_cm0_l2 n s at_ r10 m)
def F_cm0 (n : Nat) (s : List UInt8) (at_ : Int) : Option (Token × Int × Int) :=
 ass (inB at_ s.length) <|
 bif (decide ((((s.getD (at_).toNat 0).toNat : Nat) : Int) = 34)) then (
 Option.bind (F_br0 n s at_) fun r3 =>
 some ((⟨4, r3.1, 0, 0⟩ : Token), r3.2.1, r3.2.2))
 else (
 ass (inB at_ s.length) <|
 Option.bind (F_ev0 n (((s.getD (at_).toNat 0).toNat : Nat) : Int)) fun r5 =>
 bif r5 then (
 Option.bind (F_cv0 n s at_) fun r7 =>
 ass (loB at_ r7 s.length) <|
 Option.bind (F_ez0 n ((s.take (r7).toNat).drop (at_).toNat)) fun r9 =>
 some (r9.1, r7, r9.2))
 else (
 Option.bind (F_fd0 n) fun r10 =>
 F_cm0_l2 n s at_ r10 n 0))
def F_bq0_j1 (n : Nat) (v17 : List Token) : Option ((List Token) × Int × Int) :=
 some (v17, 0, 0)
def F_bq0_b2 (n : Nat) (src : List UInt8) (k2 : (List Token) → Int → Option ((List Token) × Int × Int)) (v9 : List Token) (v10 : Int) : Option ((List Token) × Int × Int) :=
 bif (decide (v10 < ((src.length : Nat) : Int))) then (
 Option.bind (F_bz0 n src v10) fun r11 =>
 Option.bind (F_cm0 n src v10) fun r12 =>
 bif (!decide (r12.2.2 = 0)) then (
 some (([] : List Token), (IntKind.i64.wrap (r11 + 1)), r12.2.2))
 else (
 ass (room (v9.length + ([(⟨r12.1.Kind, r12.1.Text, r12.1.N, (IntKind.i64.wrap (r11 + 1))⟩ : Token)] : List Token).length) 40) <|
 Option.bind (F_bn0 n src r12.2.1) fun r14 =>
 k2 (v9 ++ ([(⟨r12.1.Kind, r12.1.Text, r12.1.N, (IntKind.i64.wrap (r11 + 1))⟩ : Token)] : List Token)) r14))
 else (
 F_bq0_j1 n v9)
def F_bq0_l2 (n : Nat) (src : List UInt8) : Nat → (List Token) → Int → Option ((List Token) × Int × Int)
 | 0 => fun _ _ => none
 | m + 1 => F_bq0_b2 n src (F_bq0_l2 n src m)
def F_bq0 (n : Nat) (src : List UInt8) : Option ((List Token) × Int × Int) :=
 bif (decide (16384 < ((src.length : Nat) : Int))) then (
 some (([] : List Token), 0, 2))
 else (
 Option.bind (F_bn0 n src 0) fun r2 =>
 F_bq0_l2 n src n ([] : List Token) r2)
def F_be0_j1 (n : Nat) (op : Int) : Option Int :=
 bif (bif (decide (4 ≤ op)) then (decide (op ≤ 19)) else false) then (
 some 2)
 else (
 some (-1))
def F_be0_j3 (n : Nat) (op : Int) (v2 : Bool) : Option Int :=
 bif v2 then (
 some 1)
 else (
 F_be0_j1 n op)
def F_be0_j2 (n : Nat) (op : Int) (v1 : Bool) : Option Int :=
 bif v1 then (
 some 0)
 else (
 bif (decide (op = 9)) then (
 F_be0_j3 n op (decide (op = 9)))
 else (
 bif (decide (op = 18)) then (
 F_be0_j3 n op (decide (op = 18)))
 else (
 bif (decide (op = 20)) then (
 F_be0_j3 n op (decide (op = 20)))
 else (
 bif (decide (op = 21)) then (
 F_be0_j3 n op (decide (op = 21)))
 else (
 bif (decide (op = 22)) then (
 F_be0_j3 n op (decide (op = 22)))
 else (
 bif (decide (op = 23)) then (
 F_be0_j3 n op (decide (op = 23)))
 else (
 F_be0_j3 n op (decide (op = 24)))))))))
def F_be0 (n : Nat) (op : Int) : Option Int :=
 bif (decide (op = 1)) then (
 F_be0_j2 n op (decide (op = 1)))
 else (
 bif (decide (op = 2)) then (
 F_be0_j2 n op (decide (op = 2)))
 else (
 bif (decide (op = 3)) then (
 F_be0_j2 n op (decide (op = 3)))
 else (
 bif (decide (op = 25)) then (
 F_be0_j2 n op (decide (op = 25)))
 else (
 bif (decide (op = 26)) then (
 F_be0_j2 n op (decide (op = 26)))
 else (
 F_be0_j2 n op (decide (op = 27)))))))
def F_cp0_j1 (n : Nat) : Option Bool :=
 some true
def F_cp0_b2 (n : Nat) (s : List UInt8) (k2 : Int → Option Bool) (v5 : Int) : Option Bool :=
 bif (decide (v5 < ((s.length : Nat) : Int))) then (
 ass (inB v5 s.length) <|
 ass ((decide ((((s.getD (v5).toNat 0).toNat : Nat) : Int) < 32)) || inB v5 s.length) <|
 bif (bif (decide ((((s.getD (v5).toNat 0).toNat : Nat) : Int) < 32)) then true else (decide (126 < (((s.getD (v5).toNat 0).toNat : Nat) : Int)))) then (
 some false)
 else (
 k2 (IntKind.i64.wrap (v5 + 1))))
 else (
 F_cp0_j1 n)
def F_cp0_l2 (n : Nat) (s : List UInt8) : Nat → Int → Option Bool
 | 0 => fun _ => none
 | m + 1 => F_cp0_b2 n s (F_cp0_l2 n s m)
def F_cp0 (n : Nat) (s : List UInt8) : Option Bool :=
 bif (decide (64 < ((s.length : Nat) : Int))) then (
 some false)
 else (
 F_cp0_l2 n s n 0)
def F_fa0 (n : Nat) (e : Expr) (depth : Int) : Option Int :=
 Option.bind (F_be0 n e.Op) fun r1 =>
 bif (bif (bif (decide (r1 < 0)) then true else (bif (!decide (e.Op = 1)) then (!decide (e.N = 0)) else false)) then true else (bif (bif (!decide (e.Op = 2)) then (!decide (e.Op = 3)) else false) then (!(decide (e.S = ([] : List UInt8)))) else false)) then (
 some 1)
 else (
 Option.bind (bif (decide (e.Op = 3)) then F_ee0 n e.S else some default) fun r3 =>
 bif (bif (decide (e.Op = 3)) then (!r3) else false) then (
 some 7)
 else (
 Option.bind (bif ((!(decide (e.N < 0))) && (decide (e.Op = 2))) then F_cp0 n e.S else some default) fun r5 =>
 Option.bind (bif (!(bif (decide (e.N < 0)) then true else (bif (decide (e.Op = 2)) then (!r5) else false))) then F_be0 n e.Op else some default) fun r6 =>
 bif (bif (bif (decide (e.N < 0)) then true else (bif (decide (e.Op = 2)) then (!r5) else false)) then true else (!decide (((e.Args.length : Nat) : Int) = r6))) then (
 some 1)
 else (
 bif (decide (12 < depth)) then (
 some 2)
 else (
 some 0))))
def F_ba0_j1 (n : Nat) (f_ba0 : Expr → Int → Option Int) : Option Int :=
 some 0
def F_ba0_b2 (n : Nat) (f_ba0 : Expr → Int → Option Int) (depth : Int) (e : Expr) (k2 : Int → Option Int) (v6 : Int) : Option Int :=
 bif (decide (v6 < ((e.Args.length : Nat) : Int))) then (
 ass (inB v6 e.Args.length) <|
 Option.bind (f_ba0 (e.Args.getD (v6).toNat default) (IntKind.i64.wrap (depth + 1))) fun r8 =>
 bif (!decide (r8 = 0)) then (
 some r8)
 else (
 k2 (IntKind.i64.wrap (v6 + 1))))
 else (
 F_ba0_j1 n f_ba0)
def F_ba0_l2 (n : Nat) (f_ba0 : Expr → Int → Option Int) (depth : Int) (e : Expr) : Nat → Int → Option Int
 | 0 => fun _ => none
 | m + 1 => F_ba0_b2 n f_ba0 depth e (F_ba0_l2 n f_ba0 depth e m)
def B_ba0 (n : Nat) (f_ba0 : Expr → Int → Option Int) (e : Expr) (depth : Int) : Option Int :=
 Option.bind (F_fa0 n e depth) fun r1 =>
 bif (!decide (r1 = 0)) then (
 some r1)
 else (
 F_ba0_l2 n f_ba0 depth e n 0)
def F_ba0 : Nat → Expr → Int → Option Int
 | 0 => fun _ _ => none
 | m + 1 => B_ba0 m (F_ba0 m)
def F_en0 (n : Nat) (e : Expr) : Option Int :=
 Option.bind (F_ba0 n e 1) fun r1 =>
 some r1
def F_fc0 (n : Nat) (l : List Token) (at_ : Int) (f : Int) : Option Int :=
 bif (bif (decide (f = 0)) then (decide (at_ < ((l.length : Nat) : Int))) else false) then (
 some 5)
 else (
 some f)
def F_cn0 (n : Nat) (l : List Token) (at_ : Int) (text : List UInt8) : Option Bool :=
 ass (!(decide (at_ < ((l.length : Nat) : Int))) || inB at_ l.length) <|
 ass (!(decide (at_ < ((l.length : Nat) : Int))) || ((decide ((l.getD (at_).toNat default).Kind = 2)) || inB at_ l.length)) <|
 ass (!(bif (decide (at_ < ((l.length : Nat) : Int))) then (bif (decide ((l.getD (at_).toNat default).Kind = 2)) then true else (decide ((l.getD (at_).toNat default).Kind = 5))) else false) || inB at_ l.length) <|
 some (bif (bif (decide (at_ < ((l.length : Nat) : Int))) then (bif (decide ((l.getD (at_).toNat default).Kind = 2)) then true else (decide ((l.getD (at_).toNat default).Kind = 5))) else false) then (decide (((l.getD (at_).toNat default).Text) = text)) else false)
def F_co0_j1 (n : Nat) : Option Int :=
 some 0
def F_co0_b2 (n : Nat) (l : List Token) (at_ : Int) (level : Int) (k2 : Int → Option Int) (v6 : Int) : Option Int :=
 bif (decide (v6 < ((([([111, 114] : List UInt8), ([97, 110, 100] : List UInt8), ([61, 61] : List UInt8), ([33, 61] : List UInt8), ([60] : List UInt8), ([60, 61] : List UInt8), ([62] : List UInt8), ([62, 61] : List UInt8), ([43, 43] : List UInt8), ([43] : List UInt8), ([45] : List UInt8), ([42] : List UInt8), ([47] : List UInt8), ([37] : List UInt8)] : List (List UInt8)).length : Nat) : Int))) then (
 ass (inB v6 ([1, 2, 4, 4, 4, 4, 4, 4, 5, 6, 6, 7, 7, 7] : List Int).length) <|
 ass (!(decide ((([1, 2, 4, 4, 4, 4, 4, 4, 5, 6, 6, 7, 7, 7] : List Int).getD (v6).toNat default) = level)) || inB v6 ([([111, 114] : List UInt8), ([97, 110, 100] : List UInt8), ([61, 61] : List UInt8), ([33, 61] : List UInt8), ([60] : List UInt8), ([60, 61] : List UInt8), ([62] : List UInt8), ([62, 61] : List UInt8), ([43, 43] : List UInt8), ([43] : List UInt8), ([45] : List UInt8), ([42] : List UInt8), ([47] : List UInt8), ([37] : List UInt8)] : List (List UInt8)).length) <|
 Option.bind (bif (decide ((([1, 2, 4, 4, 4, 4, 4, 4, 5, 6, 6, 7, 7, 7] : List Int).getD (v6).toNat default) = level)) then F_cn0 n l at_ (([([111, 114] : List UInt8), ([97, 110, 100] : List UInt8), ([61, 61] : List UInt8), ([33, 61] : List UInt8), ([60] : List UInt8), ([60, 61] : List UInt8), ([62] : List UInt8), ([62, 61] : List UInt8), ([43, 43] : List UInt8), ([43] : List UInt8), ([45] : List UInt8), ([42] : List UInt8), ([47] : List UInt8), ([37] : List UInt8)] : List (List UInt8)).getD (v6).toNat default) else some default) fun r9 =>
 bif (bif (decide ((([1, 2, 4, 4, 4, 4, 4, 4, 5, 6, 6, 7, 7, 7] : List Int).getD (v6).toNat default) = level)) then r9 else false) then (
 ass (inB v6 ([17, 16, 10, 11, 12, 13, 14, 15, 19, 4, 5, 6, 7, 8] : List Int).length) <|
 some (([17, 16, 10, 11, 12, 13, 14, 15, 19, 4, 5, 6, 7, 8] : List Int).getD (v6).toNat default))
 else (
 k2 (IntKind.i64.wrap (v6 + 1))))
 else (
 F_co0_j1 n)
def F_co0_l2 (n : Nat) (l : List Token) (at_ : Int) (level : Int) : Nat → Int → Option Int
 | 0 => fun _ => none
 | m + 1 => F_co0_b2 n l at_ level (F_co0_l2 n l at_ level m)
def F_co0 (n : Nat) (l : List Token) (at_ : Int) (level : Int) : Option Int :=
 F_co0_l2 n l at_ level n 0
def F_ex0 (n : Nat) (l : List Token) (at_ : Int) (level : Int) : Option Int :=
 Option.bind (bif (decide (level = 3)) then F_cn0 n l at_ ([110, 111, 116] : List UInt8) else some default) fun r1 =>
 bif (bif (decide (level = 3)) then r1 else false) then (
 some 18)
 else (
 Option.bind (bif (decide (level = 8)) then F_cn0 n l at_ ([45] : List UInt8) else some default) fun r3 =>
 bif (bif (decide (level = 8)) then r3 else false) then (
 some 9)
 else (
 some 0))
def F_cz0_j1 (n : Nat) : Option Int :=
 some 0
def F_cz0_b2 (n : Nat) (l : List Token) (at_ : Int) (k2 : Int → Option Int) (v5 : Int) : Option Int :=
 bif (decide (v5 < ((([([116, 101, 120, 116] : List UInt8), ([108, 101, 110] : List UInt8), ([103, 101, 116, 105, 110, 116] : List UInt8), ([103, 101, 116, 115, 116, 114] : List UInt8), ([104, 97, 115] : List UInt8), ([110, 111, 119] : List UInt8), ([114, 97, 110, 100, 111, 109] : List UInt8), ([110, 111, 100, 101] : List UInt8)] : List (List UInt8)).length : Nat) : Int))) then (
 ass (inB v5 ([([116, 101, 120, 116] : List UInt8), ([108, 101, 110] : List UInt8), ([103, 101, 116, 105, 110, 116] : List UInt8), ([103, 101, 116, 115, 116, 114] : List UInt8), ([104, 97, 115] : List UInt8), ([110, 111, 119] : List UInt8), ([114, 97, 110, 100, 111, 109] : List UInt8), ([110, 111, 100, 101] : List UInt8)] : List (List UInt8)).length) <|
 Option.bind (F_cn0 n l at_ (([([116, 101, 120, 116] : List UInt8), ([108, 101, 110] : List UInt8), ([103, 101, 116, 105, 110, 116] : List UInt8), ([103, 101, 116, 115, 116, 114] : List UInt8), ([104, 97, 115] : List UInt8), ([110, 111, 119] : List UInt8), ([114, 97, 110, 100, 111, 109] : List UInt8), ([110, 111, 100, 101] : List UInt8)] : List (List UInt8)).getD (v5).toNat default)) fun r7 =>
 bif r7 then (
 ass (inB v5 ([20, 21, 22, 23, 24, 25, 26, 27] : List Int).length) <|
 some (([20, 21, 22, 23, 24, 25, 26, 27] : List Int).getD (v5).toNat default))
 else (
 k2 (IntKind.i64.wrap (v5 + 1))))
 else (
 F_cz0_j1 n)
def F_cz0_l2 (n : Nat) (l : List Token) (at_ : Int) : Nat → Int → Option Int
 | 0 => fun _ => none
 | m + 1 => F_cz0_b2 n l at_ (F_cz0_l2 n l at_ m)
def F_cz0 (n : Nat) (l : List Token) (at_ : Int) : Option Int :=
 F_cz0_l2 n l at_ n 0
def F_eh0 (n : Nat) (l : List Token) (at_ : Int) : Option Int :=
 bif (decide (((l.length : Nat) : Int) ≤ at_)) then (
 some 6)
 else (
 some 5)
def F_aw0_j1 (n : Nat) (v13 : Int) : Option (Int × Int) :=
 some (v13, 0)
def F_aw0_b2 (n : Nat) (l : List Token) (words : List (List UInt8)) (k2 : Int → Int → Option (Int × Int)) (v6 : Int) (v7 : Int) : Option (Int × Int) :=
 bif (decide (v7 < ((words.length : Nat) : Int))) then (
 ass (inB v7 words.length) <|
 Option.bind (F_cn0 n l v6 (words.getD (v7).toNat default)) fun r9 =>
 bif (!r9) then (
 Option.bind (F_eh0 n l v6) fun r10 =>
 some (v6, r10))
 else (
 k2 (IntKind.i64.wrap (v6 + 1)) (IntKind.i64.wrap (v7 + 1))))
 else (
 F_aw0_j1 n v6)
def F_aw0_l2 (n : Nat) (l : List Token) (words : List (List UInt8)) : Nat → Int → Int → Option (Int × Int)
 | 0 => fun _ _ => none
 | m + 1 => F_aw0_b2 n l words (F_aw0_l2 n l words m)
def F_aw0 (n : Nat) (l : List Token) (at_ : Int) (words : List (List UInt8)) : Option (Int × Int) :=
 F_aw0_l2 n l words n at_ 0
def F_aa0_j1 (n : Nat) (f_aa0 : (List Token) → Int → Int → Int → Option (Expr × Int × Int)) (f_az0 : (List Token) → Int → Int → Option (Expr × Int × Int)) (f_ay0 : (List Token) → Int → Int → Option (Expr × Int × Int)) (v30 : Int) (v31 : Int) : Option (Expr × Int × Int) :=
 some ((⟨0, 0, ([] : List UInt8), ([] : List Expr)⟩ : Expr), v30, v31)
def F_aa0_b2 (n : Nat) (f_aa0 : (List Token) → Int → Int → Int → Option (Expr × Int × Int)) (f_az0 : (List Token) → Int → Int → Option (Expr × Int × Int)) (f_ay0 : (List Token) → Int → Int → Option (Expr × Int × Int)) (l : List Token) (level : Int) (n_ : Int) (k2 : Int → Int → (List UInt8) → (List Expr) → Int → Int → Option (Expr × Int × Int)) (v16 : Int) (v17 : Int) (v18 : List UInt8) (v19 : List Expr) (v20 : Int) (v21 : Int) : Option (Expr × Int × Int) :=
 bif (decide (v21 = 0)) then (
 Option.bind (F_co0 n l v20 level) fun r22 =>
 bif (decide (r22 = 0)) then (
 some ((⟨v16, v17, v18, v19⟩ : Expr), v20, 0))
 else (
 Option.bind (f_aa0 l (IntKind.i64.wrap (v20 + 1)) (IntKind.i64.wrap (level + 1)) n_) fun r23 =>
 bif (bif (decide (r23.2.2 = 0)) then (decide (level = 4)) else false) then (
 some ((⟨r22, 0, ([] : List UInt8), ([(⟨v16, v17, v18, v19⟩ : Expr), r23.1] : List Expr)⟩ : Expr), r23.2.1, 0))
 else (
 k2 r22 0 ([] : List UInt8) ([(⟨v16, v17, v18, v19⟩ : Expr), r23.1] : List Expr) r23.2.1 r23.2.2)))
 else (
 F_aa0_j1 n f_aa0 f_az0 f_ay0 v20 v21)
def F_aa0_l2 (n : Nat) (f_aa0 : (List Token) → Int → Int → Int → Option (Expr × Int × Int)) (f_az0 : (List Token) → Int → Int → Option (Expr × Int × Int)) (f_ay0 : (List Token) → Int → Int → Option (Expr × Int × Int)) (l : List Token) (level : Int) (n_ : Int) : Nat → Int → Int → (List UInt8) → (List Expr) → Int → Int → Option (Expr × Int × Int)
 | 0 => fun _ _ _ _ _ _ => none
 | m + 1 => F_aa0_b2 n f_aa0 f_az0 f_ay0 l level n_ (F_aa0_l2 n f_aa0 f_az0 f_ay0 l level n_ m)
def B_aa0 (n : Nat) (f_aa0 : (List Token) → Int → Int → Int → Option (Expr × Int × Int)) (f_az0 : (List Token) → Int → Int → Option (Expr × Int × Int)) (f_ay0 : (List Token) → Int → Int → Option (Expr × Int × Int)) (l : List Token) (at_ : Int) (level : Int) (n_ : Int) : Option (Expr × Int × Int) :=
 bif (decide (level = 9)) then (
 Option.bind (f_az0 l at_ n_) fun r2 =>
 some (r2.1, r2.2.1, r2.2.2))
 else (
 Option.bind (F_ex0 n l at_ level) fun r3 =>
 bif (!decide (r3 = 0)) then (
 bif (decide (n_ = 24)) then (
 some ((⟨0, 0, ([] : List UInt8), ([] : List Expr)⟩ : Expr), at_, 2))
 else (
 Option.bind (f_aa0 l (IntKind.i64.wrap (at_ + 1)) level (IntKind.i64.wrap (n_ + 1))) fun r6 =>
 some ((⟨r3, 0, ([] : List UInt8), ([r6.1] : List Expr)⟩ : Expr), r6.2.1, r6.2.2)))
 else (
 Option.bind (f_aa0 l at_ (IntKind.i64.wrap (level + 1)) n_) fun r7 =>
 F_aa0_l2 n f_aa0 f_az0 f_ay0 l level n_ n r7.1.Op r7.1.N r7.1.S r7.1.Args r7.2.1 r7.2.2))
def F_az0_j1 (n : Nat) (f_aa0 : (List Token) → Int → Int → Int → Option (Expr × Int × Int)) (f_az0 : (List Token) → Int → Int → Option (Expr × Int × Int)) (f_ay0 : (List Token) → Int → Int → Option (Expr × Int × Int)) (l : List Token) (at_ : Int) (n_ : Int) : Option (Expr × Int × Int) :=
 Option.bind (F_cz0 n l at_) fun r5 =>
 bif (decide (25 ≤ r5)) then (
 Option.bind (F_aw0 n l (IntKind.i64.wrap (at_ + 1)) ([([40] : List UInt8), ([41] : List UInt8)] : List (List UInt8))) fun r7 =>
 some ((⟨r5, 0, ([] : List UInt8), ([] : List Expr)⟩ : Expr), r7.1, r7.2))
 else (
 Option.bind (bif (decide (r5 = 0)) then F_cn0 n l at_ ([40] : List UInt8) else some default) fun r8 =>
 bif (bif (decide (r5 = 0)) then (!r8) else false) then (
 Option.bind (F_eh0 n l at_) fun r10 =>
 some ((⟨0, 0, ([] : List UInt8), ([] : List Expr)⟩ : Expr), at_, r10))
 else (
 bif (decide (n_ = 24)) then (
 some ((⟨0, 0, ([] : List UInt8), ([] : List Expr)⟩ : Expr), at_, 2))
 else (
 bif (decide (r5 = 0)) then (
 Option.bind (f_ay0 l at_ (IntKind.i64.wrap (n_ + 1))) fun r13 =>
 some (r13.1, r13.2.1, r13.2.2))
 else (
 Option.bind (f_ay0 l (IntKind.i64.wrap (at_ + 1)) (IntKind.i64.wrap (n_ + 1))) fun r14 =>
 some ((⟨r5, 0, ([] : List UInt8), ([r14.1] : List Expr)⟩ : Expr), r14.2.1, r14.2.2)))))
def B_az0 (n : Nat) (f_aa0 : (List Token) → Int → Int → Int → Option (Expr × Int × Int)) (f_az0 : (List Token) → Int → Int → Option (Expr × Int × Int)) (f_ay0 : (List Token) → Int → Int → Option (Expr × Int × Int)) (l : List Token) (at_ : Int) (n_ : Int) : Option (Expr × Int × Int) :=
 bif (decide (at_ < ((l.length : Nat) : Int))) then (
 ass (inB at_ l.length) <|
 bif (decide ((l.getD (at_).toNat default).Kind = 3)) then (
 ass (inB at_ l.length) <|
 some ((⟨1, (l.getD (at_).toNat default).N, ([] : List UInt8), ([] : List Expr)⟩ : Expr), (IntKind.i64.wrap (at_ + 1)), 0))
 else (
 bif (decide ((l.getD (at_).toNat default).Kind = 4)) then (
 ass (inB at_ l.length) <|
 some ((⟨2, 0, (l.getD (at_).toNat default).Text, ([] : List Expr)⟩ : Expr), (IntKind.i64.wrap (at_ + 1)), 0))
 else (
 bif (decide ((l.getD (at_).toNat default).Kind = 1)) then (
 ass (inB at_ l.length) <|
 some ((⟨3, 0, (l.getD (at_).toNat default).Text, ([] : List Expr)⟩ : Expr), (IntKind.i64.wrap (at_ + 1)), 0))
 else (
 F_az0_j1 n f_aa0 f_az0 f_ay0 l at_ n_))))
 else (
 F_az0_j1 n f_aa0 f_az0 f_ay0 l at_ n_)
def B_ay0 (n : Nat) (f_aa0 : (List Token) → Int → Int → Int → Option (Expr × Int × Int)) (f_az0 : (List Token) → Int → Int → Option (Expr × Int × Int)) (f_ay0 : (List Token) → Int → Int → Option (Expr × Int × Int)) (l : List Token) (at_ : Int) (n_ : Int) : Option (Expr × Int × Int) :=
 Option.bind (F_aw0 n l at_ ([([40] : List UInt8)] : List (List UInt8))) fun r1 =>
 bif (!decide (r1.2 = 0)) then (
 some ((⟨0, 0, ([] : List UInt8), ([] : List Expr)⟩ : Expr), r1.1, r1.2))
 else (
 Option.bind (f_aa0 l r1.1 1 n_) fun r3 =>
 bif (!decide (r3.2.2 = 0)) then (
 some ((⟨0, 0, ([] : List UInt8), ([] : List Expr)⟩ : Expr), r3.2.1, r3.2.2))
 else (
 Option.bind (F_aw0 n l r3.2.1 ([([41] : List UInt8)] : List (List UInt8))) fun r5 =>
 some (r3.1, r5.1, r5.2)))
def FS_aa0 : Nat → ((List Token) → Int → Int → Int → Option (Expr × Int × Int)) × ((List Token) → Int → Int → Option (Expr × Int × Int)) × ((List Token) → Int → Int → Option (Expr × Int × Int))
 | 0 => (fun _ _ _ _ => none, fun _ _ _ => none, fun _ _ _ => none)
 | m + 1 => (B_aa0 m ((FS_aa0 m).1) ((FS_aa0 m).2.1) ((FS_aa0 m).2.2), B_az0 m ((FS_aa0 m).1) ((FS_aa0 m).2.1) ((FS_aa0 m).2.2), B_ay0 m ((FS_aa0 m).1) ((FS_aa0 m).2.1) ((FS_aa0 m).2.2))
def F_aa0 (n : Nat) : (List Token) → Int → Int → Int → Option (Expr × Int × Int) := (FS_aa0 n).1
def F_az0 (n : Nat) : (List Token) → Int → Int → Option (Expr × Int × Int) := (FS_aa0 n).2.1
def F_ay0 (n : Nat) : (List Token) → Int → Int → Option (Expr × Int × Int) := (FS_aa0 n).2.2
def F_fb0 (n : Nat) (l : List Token) (at_ : Int) : Option Int :=
 bif (decide (((l.length : Nat) : Int) = 0)) then (
 some 1)
 else (
 ass (inB (bif (decide ((IntKind.i64.wrap (((l.length : Nat) : Int) - 1)) < at_)) then (IntKind.i64.wrap (((l.length : Nat) : Int) - 1)) else at_) l.length) <|
 some ((l.getD ((bif (decide ((IntKind.i64.wrap (((l.length : Nat) : Int) - 1)) < at_)) then (IntKind.i64.wrap (((l.length : Nat) : Int) - 1)) else at_)).toNat default).Line))
def F_dw0 (n : Nat) (e : Expr) : Option Bool :=
 some (bif (bif (bif (decide (e.Op = 0)) then (decide (e.N = 0)) else false) then (decide (e.S = ([] : List UInt8))) else false) then (decide (((e.Args.length : Nat) : Int) = 0)) else false)
def F_aq0_j1 (n : Nat) (f_aq0 : (List Vz8) → Expr → Bool → Option (List Vz8)) (v13 : List Vz8) : Option (List Vz8) :=
 some v13
def F_aq0_b2 (n : Nat) (f_aq0 : (List Vz8) → Expr → Bool → Option (List Vz8)) (e : Expr) (k2 : (List Vz8) → Int → Option (List Vz8)) (v7 : List Vz8) (v8 : Int) : Option (List Vz8) :=
 bif (bif (decide (v8 < ((e.Args.length : Nat) : Int))) then (decide (((v7.length : Nat) : Int) ≤ 400)) else false) then (
 ass (inB v8 e.Args.length) <|
 Option.bind (f_aq0 v7 (e.Args.getD (v8).toNat default) false) fun r10 =>
 k2 r10 (IntKind.i64.wrap (v8 + 1)))
 else (
 F_aq0_j1 n f_aq0 v7)
def F_aq0_l2 (n : Nat) (f_aq0 : (List Vz8) → Expr → Bool → Option (List Vz8)) (e : Expr) : Nat → (List Vz8) → Int → Option (List Vz8)
 | 0 => fun _ _ => none
 | m + 1 => F_aq0_b2 n f_aq0 e (F_aq0_l2 n f_aq0 e m)
def B_aq0 (n : Nat) (f_aq0 : (List Vz8) → Expr → Bool → Option (List Vz8)) (out : List Vz8) (e : Expr) (root : Bool) : Option (List Vz8) :=
 bif (decide (400 < ((out.length : Nat) : Int))) then (
 some out)
 else (
 ass (room (out.length + ([(⟨false, (⟨0, ([] : List UInt8), 0, (⟨0, 0, ([] : List UInt8), ([] : List Expr)⟩ : Expr), (⟨0, 0, ([] : List UInt8), ([] : List Expr)⟩ : Expr), ([] : List Stmt), ([] : List Stmt)⟩ : Stmt), 0, e, root⟩ : Vz8)] : List Vz8).length) 272) <|
 F_aq0_l2 n f_aq0 e n (out ++ ([(⟨false, (⟨0, ([] : List UInt8), 0, (⟨0, 0, ([] : List UInt8), ([] : List Expr)⟩ : Expr), (⟨0, 0, ([] : List UInt8), ([] : List Expr)⟩ : Expr), ([] : List Stmt), ([] : List Stmt)⟩ : Stmt), 0, e, root⟩ : Vz8)] : List Vz8)) 0)
def F_aq0 : Nat → (List Vz8) → Expr → Bool → Option (List Vz8)
 | 0 => fun _ _ _ => none
 | m + 1 => B_aq0 m (F_aq0 m)
def F_v0_j1 (n : Nat) (f_v0 : (List Vz8) → (List Stmt) → Int → Option (List Vz8)) (v41 : List Vz8) : Option (List Vz8) :=
 some v41
def F_v0_j3 (n : Nat) (f_v0 : (List Vz8) → (List Stmt) → Int → Option (List Vz8)) (k2 : (List Vz8) → Int → Option (List Vz8)) (l : List Stmt) (depth : Int) (v21 : Int) (v38 : List Vz8) : Option (List Vz8) :=
 k2 v38 (IntKind.i64.wrap (v21 + 1))
def F_v0_j5 (n : Nat) (f_v0 : (List Vz8) → (List Stmt) → Int → Option (List Vz8)) (k2 : (List Vz8) → Int → Option (List Vz8)) (l : List Stmt) (depth : Int) (v21 : Int) (v33 : List Vz8) : Option (List Vz8) :=
 ass (inB v21 l.length) <|
 Option.bind (f_v0 v33 ((l.getD (v21).toNat default).Body) (IntKind.i64.wrap (depth + 1))) fun r35 =>
 ass (inB v21 l.length) <|
 Option.bind (f_v0 r35 ((l.getD (v21).toNat default).Else) (IntKind.i64.wrap (depth + 1))) fun r37 =>
 F_v0_j3 n f_v0 k2 l depth v21 r37
def F_v0_j4 (n : Nat) (f_v0 : (List Vz8) → (List Stmt) → Int → Option (List Vz8)) (k2 : (List Vz8) → Int → Option (List Vz8)) (l : List Stmt) (depth : Int) (v21 : Int) (v28 : List Vz8) : Option (List Vz8) :=
 ass (inB v21 l.length) <|
 Option.bind (F_dw0 n ((l.getD (v21).toNat default).B)) fun r30 =>
 bif (!r30) then (
 ass (inB v21 l.length) <|
 Option.bind (F_aq0 n v28 ((l.getD (v21).toNat default).B) true) fun r32 =>
 F_v0_j5 n f_v0 k2 l depth v21 r32)
 else (
 F_v0_j5 n f_v0 k2 l depth v21 v28)
def F_v0_b2 (n : Nat) (f_v0 : (List Vz8) → (List Stmt) → Int → Option (List Vz8)) (l : List Stmt) (depth : Int) (k2 : (List Vz8) → Int → Option (List Vz8)) (v20 : List Vz8) (v21 : Int) : Option (List Vz8) :=
 bif (bif (decide (v21 < ((l.length : Nat) : Int))) then (decide (((v20.length : Nat) : Int) ≤ 400)) else false) then (
 ass (inB v21 l.length) <|
 ass (room (v20.length + ([(⟨true, (⟨(l.getD (v21).toNat default).Op, (l.getD (v21).toNat default).Name, (l.getD (v21).toNat default).Max, (⟨((l.getD (v21).toNat default).A).Op, ((l.getD (v21).toNat default).A).N, ((l.getD (v21).toNat default).A).S, ((l.getD (v21).toNat default).A).Args⟩ : Expr), (⟨((l.getD (v21).toNat default).B).Op, ((l.getD (v21).toNat default).B).N, ((l.getD (v21).toNat default).B).S, ((l.getD (v21).toNat default).B).Args⟩ : Expr), (l.getD (v21).toNat default).Body, (l.getD (v21).toNat default).Else⟩ : Stmt), depth, (⟨0, 0, ([] : List UInt8), ([] : List Expr)⟩ : Expr), false⟩ : Vz8)] : List Vz8).length) 272) <|
 ass (inB v21 l.length) <|
 Option.bind (F_dw0 n ((l.getD (v21).toNat default).A)) fun r25 =>
 bif (!r25) then (
 ass (inB v21 l.length) <|
 Option.bind (F_aq0 n (v20 ++ ([(⟨true, (⟨(l.getD (v21).toNat default).Op, (l.getD (v21).toNat default).Name, (l.getD (v21).toNat default).Max, (⟨((l.getD (v21).toNat default).A).Op, ((l.getD (v21).toNat default).A).N, ((l.getD (v21).toNat default).A).S, ((l.getD (v21).toNat default).A).Args⟩ : Expr), (⟨((l.getD (v21).toNat default).B).Op, ((l.getD (v21).toNat default).B).N, ((l.getD (v21).toNat default).B).S, ((l.getD (v21).toNat default).B).Args⟩ : Expr), (l.getD (v21).toNat default).Body, (l.getD (v21).toNat default).Else⟩ : Stmt), depth, (⟨0, 0, ([] : List UInt8), ([] : List Expr)⟩ : Expr), false⟩ : Vz8)] : List Vz8)) ((l.getD (v21).toNat default).A) true) fun r27 =>
 F_v0_j4 n f_v0 k2 l depth v21 r27)
 else (
 F_v0_j4 n f_v0 k2 l depth v21 (v20 ++ ([(⟨true, (⟨(l.getD (v21).toNat default).Op, (l.getD (v21).toNat default).Name, (l.getD (v21).toNat default).Max, (⟨((l.getD (v21).toNat default).A).Op, ((l.getD (v21).toNat default).A).N, ((l.getD (v21).toNat default).A).S, ((l.getD (v21).toNat default).A).Args⟩ : Expr), (⟨((l.getD (v21).toNat default).B).Op, ((l.getD (v21).toNat default).B).N, ((l.getD (v21).toNat default).B).S, ((l.getD (v21).toNat default).B).Args⟩ : Expr), (l.getD (v21).toNat default).Body, (l.getD (v21).toNat default).Else⟩ : Stmt), depth, (⟨0, 0, ([] : List UInt8), ([] : List Expr)⟩ : Expr), false⟩ : Vz8)] : List Vz8))))
 else (
 F_v0_j1 n f_v0 v20)
def F_v0_l2 (n : Nat) (f_v0 : (List Vz8) → (List Stmt) → Int → Option (List Vz8)) (l : List Stmt) (depth : Int) : Nat → (List Vz8) → Int → Option (List Vz8)
 | 0 => fun _ _ => none
 | m + 1 => F_v0_b2 n f_v0 l depth (F_v0_l2 n f_v0 l depth m)
def B_v0 (n : Nat) (f_v0 : (List Vz8) → (List Stmt) → Int → Option (List Vz8)) (out : List Vz8) (l : List Stmt) (depth : Int) : Option (List Vz8) :=
 F_v0_l2 n f_v0 l depth n out 0
def F_v0 : Nat → (List Vz8) → (List Stmt) → Int → Option (List Vz8)
 | 0 => fun _ _ _ => none
 | m + 1 => B_v0 m (F_v0 m)
def F_ff0 (n : Nat) (p : Proc) : Option (List Vz8) :=
 Option.bind (F_v0 n ([] : List Vz8) p.Body 1) fun r1 =>
 some r1
def F_au0_j1 (n : Nat) : Option Int :=
 some 0
def F_au0_j3 (n : Nat) (k2 : Int → Option Int) (l : List Param) (v14 : Int) : Option Int :=
 k2 (IntKind.i64.wrap (v14 + 1))
def F_au0_b4 (n : Nat) (k2 : Int → Option Int) (l : List Param) (v14 : Int) (k4 : Int → Option Int) (v22 : Int) : Option Int :=
 bif (decide (v22 < v14)) then (
 ass (inB v22 l.length) <|
 ass (inB v14 l.length) <|
 bif (decide (((l.getD (v22).toNat default).Name) = ((l.getD (v14).toNat default).Name))) then (
 some 8)
 else (
 k4 (IntKind.i64.wrap (v22 + 1))))
 else (
 F_au0_j3 n k2 l v14)
def F_au0_l4 (n : Nat) (k2 : Int → Option Int) (l : List Param) (v14 : Int) : Nat → Int → Option Int
 | 0 => fun _ => none
 | m + 1 => F_au0_b4 n k2 l v14 (F_au0_l4 n k2 l v14 m)
def F_au0_b2 (n : Nat) (l : List Param) (k2 : Int → Option Int) (v14 : Int) : Option Int :=
 bif (decide (v14 < ((l.length : Nat) : Int))) then (
 ass (inB v14 l.length) <|
 Option.bind (F_ee0 n ((l.getD (v14).toNat default).Name)) fun r16 =>
 bif (!r16) then (
 some 7)
 else (
 ass (inB v14 l.length) <|
 ass ((decide ((l.getD (v14).toNat default).Type_ < 1)) || inB v14 l.length) <|
 bif (bif (decide ((l.getD (v14).toNat default).Type_ < 1)) then true else (decide (3 < (l.getD (v14).toNat default).Type_))) then (
 some 10)
 else (
 F_au0_l4 n k2 l v14 n 0)))
 else (
 F_au0_j1 n)
def F_au0_l2 (n : Nat) (l : List Param) : Nat → Int → Option Int
 | 0 => fun _ => none
 | m + 1 => F_au0_b2 n l (F_au0_l2 n l m)
def F_au0 (n : Nat) (l : List Param) : Option Int :=
 bif (decide (6 < ((l.length : Nat) : Int))) then (
 some 2)
 else (
 F_au0_l2 n l n 0)
def F_cr0_j1 (n : Nat) : Option (Bool × Bool × Bool × Bool × Bool × Bool) :=
 some (false, true, false, false, false, false)
def F_cr0_j3 (n : Nat) (op : Int) (v2 : Bool) : Option (Bool × Bool × Bool × Bool × Bool × Bool) :=
 bif v2 then (
 some (false, false, true, false, false, false))
 else (
 bif (decide (op = 5)) then (
 some (false, false, true, false, true, true))
 else (
 bif (decide (op = 6)) then (
 some (true, true, true, true, true, false))
 else (
 F_cr0_j1 n)))
def F_cr0_j2 (n : Nat) (op : Int) (v1 : Bool) : Option (Bool × Bool × Bool × Bool × Bool × Bool) :=
 bif v1 then (
 some (true, false, true, false, false, false))
 else (
 bif (decide (op = 3)) then (
 some (false, false, true, true, false, false))
 else (
 bif (decide (op = 4)) then (
 F_cr0_j3 n op (decide (op = 4)))
 else (
 F_cr0_j3 n op (decide (op = 7)))))
def F_cr0 (n : Nat) (op : Int) : Option (Bool × Bool × Bool × Bool × Bool × Bool) :=
 bif (decide (op = 1)) then (
 F_cr0_j2 n op (decide (op = 1)))
 else (
 F_cr0_j2 n op (decide (op = 2)))
def F_dk0_j2 (n : Nat) (depth : Int) : Option Int :=
 bif (decide (12 < depth)) then (
 some 2)
 else (
 some 0)
def F_dk0_j1 (n : Nat) (depth : Int) (r1 : Bool × Bool × Bool × Bool × Bool × Bool) (s : Stmt) : Option Int :=
 bif r1.2.2.2.1 then (
 Option.bind (F_en0 n (⟨s.B.Op, s.B.N, s.B.S, s.B.Args⟩ : Expr)) fun r9 =>
 bif (!decide (r9 = 0)) then (
 some r9)
 else (
 F_dk0_j2 n depth))
 else (
 F_dk0_j2 n depth)
def F_dk0 (n : Nat) (s : Stmt) (depth : Int) : Option Int :=
 Option.bind (F_cr0 n s.Op) fun r1 =>
 Option.bind (bif ((!(bif (bif (bif (decide (s.Op < 1)) then true else (decide (8 < s.Op))) then true else (bif (!r1.1) then (!(decide (s.Name = ([] : List UInt8)))) else false)) then true else (bif (!r1.2.1) then (!decide (s.Max = 0)) else false))) && (!r1.2.2.1)) then F_dw0 n (⟨s.A.Op, s.A.N, s.A.S, s.A.Args⟩ : Expr) else some default) fun r2 =>
 Option.bind (bif ((!(bif (bif (bif (bif (decide (s.Op < 1)) then true else (decide (8 < s.Op))) then true else (bif (!r1.1) then (!(decide (s.Name = ([] : List UInt8)))) else false)) then true else (bif (!r1.2.1) then (!decide (s.Max = 0)) else false)) then true else (bif (!r1.2.2.1) then (!r2) else false))) && (!r1.2.2.2.1)) then F_dw0 n (⟨s.B.Op, s.B.N, s.B.S, s.B.Args⟩ : Expr) else some default) fun r3 =>
 bif (bif (bif (bif (bif (bif (bif (bif (decide (s.Op < 1)) then true else (decide (8 < s.Op))) then true else (bif (!r1.1) then (!(decide (s.Name = ([] : List UInt8)))) else false)) then true else (bif (!r1.2.1) then (!decide (s.Max = 0)) else false)) then true else (bif (!r1.2.2.1) then (!r2) else false)) then true else (bif (!r1.2.2.2.1) then (!r3) else false)) then true else (bif (!r1.2.2.2.2.1) then (decide (0 < ((s.Body.length : Nat) : Int))) else false)) then true else (bif (!r1.2.2.2.2.2) then (decide (0 < ((s.Else.length : Nat) : Int))) else false)) then (
 some 1)
 else (
 bif (bif (bif (decide (s.Op = 6)) then (bif (decide (s.Max < 1)) then true else (decide (16 < s.Max))) else false) then true else (bif (decide (s.Op = 8)) then (bif (decide (s.Max < 0)) then true else (decide (999 < s.Max))) else false)) then (
 some 1)
 else (
 Option.bind (bif r1.1 then F_ee0 n s.Name else some default) fun r6 =>
 bif (bif r1.1 then (!r6) else false) then (
 some 7)
 else (
 bif r1.2.2.1 then (
 Option.bind (F_en0 n (⟨s.A.Op, s.A.N, s.A.S, s.A.Args⟩ : Expr)) fun r8 =>
 bif (!decide (r8 = 0)) then (
 some r8)
 else (
 F_dk0_j1 n depth r1 s))
 else (
 F_dk0_j1 n depth r1 s))))
def F_bd0_j1 (n : Nat) (r5 : (List Vz8)) : Option Int :=
 bif (decide (400 < ((r5.length : Nat) : Int))) then (
 some 2)
 else (
 some 0)
def F_bd0_j3 (n : Nat) (k2 : Int → Option Int) (r5 : (List Vz8)) (v11 : Int) : Option Int :=
 k2 (IntKind.i64.wrap (v11 + 1))
def F_bd0_b2 (n : Nat) (r5 : (List Vz8)) (k2 : Int → Option Int) (v11 : Int) : Option Int :=
 bif (decide (v11 < ((r5.length : Nat) : Int))) then (
 ass (inB v11 r5.length) <|
 bif (r5.getD (v11).toNat default).IsStmt then (
 ass (inB v11 r5.length) <|
 ass (inB v11 r5.length) <|
 Option.bind (F_dk0 n ((r5.getD (v11).toNat default).Stmt) ((r5.getD (v11).toNat default).Depth)) fun r15 =>
 bif (!decide (r15 = 0)) then (
 some r15)
 else (
 F_bd0_j3 n k2 r5 v11))
 else (
 F_bd0_j3 n k2 r5 v11))
 else (
 F_bd0_j1 n r5)
def F_bd0_l2 (n : Nat) (r5 : (List Vz8)) : Nat → Int → Option Int
 | 0 => fun _ => none
 | m + 1 => F_bd0_b2 n r5 (F_bd0_l2 n r5 m)
def F_bd0 (n : Nat) (p : Proc) : Option Int :=
 Option.bind (F_ee0 n p.Name) fun r1 =>
 bif (!r1) then (
 some 7)
 else (
 Option.bind (F_au0 n p.Params) fun r3 =>
 bif (!decide (r3 = 0)) then (
 some r3)
 else (
 Option.bind (F_ff0 n p) fun r5 =>
 F_bd0_l2 n r5 n 0))
def F_ch0_j1 (n : Nat) : Option Int :=
 some 0
def F_ch0_b2 (n : Nat) (l : List Token) (at_ : Int) (k2 : Int → Option Int) (v5 : Int) : Option Int :=
 bif (decide (v5 < ((([([108, 101, 116] : List UInt8), ([112, 117, 116] : List UInt8), ([100, 101, 108, 101, 116, 101] : List UInt8), ([105, 102] : List UInt8), ([102, 111, 114] : List UInt8), ([101, 109, 105, 116] : List UInt8), ([97, 98, 111, 114, 116] : List UInt8)] : List (List UInt8)).length : Nat) : Int))) then (
 ass (inB v5 ([([108, 101, 116] : List UInt8), ([112, 117, 116] : List UInt8), ([100, 101, 108, 101, 116, 101] : List UInt8), ([105, 102] : List UInt8), ([102, 111, 114] : List UInt8), ([101, 109, 105, 116] : List UInt8), ([97, 98, 111, 114, 116] : List UInt8)] : List (List UInt8)).length) <|
 Option.bind (F_cn0 n l at_ (([([108, 101, 116] : List UInt8), ([112, 117, 116] : List UInt8), ([100, 101, 108, 101, 116, 101] : List UInt8), ([105, 102] : List UInt8), ([102, 111, 114] : List UInt8), ([101, 109, 105, 116] : List UInt8), ([97, 98, 111, 114, 116] : List UInt8)] : List (List UInt8)).getD (v5).toNat default)) fun r7 =>
 bif r7 then (
 ass (inB v5 ([1, 3, 4, 5, 6, 7, 8] : List Int).length) <|
 some (([1, 3, 4, 5, 6, 7, 8] : List Int).getD (v5).toNat default))
 else (
 k2 (IntKind.i64.wrap (v5 + 1))))
 else (
 F_ch0_j1 n)
def F_ch0_l2 (n : Nat) (l : List Token) (at_ : Int) : Nat → Int → Option Int
 | 0 => fun _ => none
 | m + 1 => F_ch0_b2 n l at_ (F_ch0_l2 n l at_ m)
def F_ch0 (n : Nat) (l : List Token) (at_ : Int) : Option Int :=
 F_ch0_l2 n l at_ n 0
def F_dv0 (n : Nat) (l : List Token) (at_ : Int) (kind : Int) : Option (Token × Int × Int) :=
 ass ((decide (((l.length : Nat) : Int) ≤ at_)) || inB at_ l.length) <|
 bif (bif (decide (((l.length : Nat) : Int) ≤ at_)) then true else (!decide ((l.getD (at_).toNat default).Kind = kind))) then (
 Option.bind (F_eh0 n l at_) fun r3 =>
 some ((⟨0, ([] : List UInt8), 0, 0⟩ : Token), at_, r3))
 else (
 ass (inB at_ l.length) <|
 some ((l.getD (at_).toNat default), (IntKind.i64.wrap (at_ + 1)), 0))
def F_u0_j1 (n : Nat) (f_u0 : (List Token) → Int → Int → Option ((List Stmt) × Int × Int)) (f_x0 : (List Token) → Int → Int → Option (Stmt × Int × Int)) (f_ag0 : (List Token) → Int → Stmt → Int → Option (Stmt × Int × Int)) (f_ai0 : (List Token) → Int → Stmt → Int → Option (Stmt × Int × Int)) (v16 : Int) (v17 : List Stmt) : Option ((List Stmt) × Int × Int) :=
 some (v17, (IntKind.i64.wrap (v16 + 1)), 0)
def F_u0_b2 (n : Nat) (f_u0 : (List Token) → Int → Int → Option ((List Stmt) × Int × Int)) (f_x0 : (List Token) → Int → Int → Option (Stmt × Int × Int)) (f_ag0 : (List Token) → Int → Stmt → Int → Option (Stmt × Int × Int)) (f_ai0 : (List Token) → Int → Stmt → Int → Option (Stmt × Int × Int)) (l : List Token) (depth : Int) (k2 : Int → (List Stmt) → Option ((List Stmt) × Int × Int)) (v9 : Int) (v10 : List Stmt) : Option ((List Stmt) × Int × Int) :=
 Option.bind (F_cn0 n l v9 ([125] : List UInt8)) fun r11 =>
 bif (!r11) then (
 Option.bind (f_x0 l v9 depth) fun r12 =>
 bif (!decide (r12.2.2 = 0)) then (
 some (([] : List Stmt), r12.2.1, r12.2.2))
 else (
 ass (room (v10.length + ([(⟨r12.1.Op, r12.1.Name, r12.1.Max, (⟨r12.1.A.Op, r12.1.A.N, r12.1.A.S, r12.1.A.Args⟩ : Expr), (⟨r12.1.B.Op, r12.1.B.N, r12.1.B.S, r12.1.B.Args⟩ : Expr), r12.1.Body, r12.1.Else⟩ : Stmt)] : List Stmt).length) 192) <|
 k2 r12.2.1 (v10 ++ ([(⟨r12.1.Op, r12.1.Name, r12.1.Max, (⟨r12.1.A.Op, r12.1.A.N, r12.1.A.S, r12.1.A.Args⟩ : Expr), (⟨r12.1.B.Op, r12.1.B.N, r12.1.B.S, r12.1.B.Args⟩ : Expr), r12.1.Body, r12.1.Else⟩ : Stmt)] : List Stmt))))
 else (
 F_u0_j1 n f_u0 f_x0 f_ag0 f_ai0 v9 v10)
def F_u0_l2 (n : Nat) (f_u0 : (List Token) → Int → Int → Option ((List Stmt) × Int × Int)) (f_x0 : (List Token) → Int → Int → Option (Stmt × Int × Int)) (f_ag0 : (List Token) → Int → Stmt → Int → Option (Stmt × Int × Int)) (f_ai0 : (List Token) → Int → Stmt → Int → Option (Stmt × Int × Int)) (l : List Token) (depth : Int) : Nat → Int → (List Stmt) → Option ((List Stmt) × Int × Int)
 | 0 => fun _ _ => none
 | m + 1 => F_u0_b2 n f_u0 f_x0 f_ag0 f_ai0 l depth (F_u0_l2 n f_u0 f_x0 f_ag0 f_ai0 l depth m)
def B_u0 (n : Nat) (f_u0 : (List Token) → Int → Int → Option ((List Stmt) × Int × Int)) (f_x0 : (List Token) → Int → Int → Option (Stmt × Int × Int)) (f_ag0 : (List Token) → Int → Stmt → Int → Option (Stmt × Int × Int)) (f_ai0 : (List Token) → Int → Stmt → Int → Option (Stmt × Int × Int)) (l : List Token) (at_ : Int) (depth : Int) : Option ((List Stmt) × Int × Int) :=
 Option.bind (F_aw0 n l at_ ([([123] : List UInt8)] : List (List UInt8))) fun r1 =>
 bif (!decide (r1.2 = 0)) then (
 some (([] : List Stmt), r1.1, r1.2))
 else (
 bif (decide (12 < depth)) then (
 some (([] : List Stmt), (IntKind.i64.wrap (r1.1 - 1)), 2))
 else (
 F_u0_l2 n f_u0 f_x0 f_ag0 f_ai0 l depth n r1.1 ([] : List Stmt)))
def F_x0_j3 (n : Nat) (f_u0 : (List Token) → Int → Int → Option ((List Stmt) × Int × Int)) (f_x0 : (List Token) → Int → Int → Option (Stmt × Int × Int)) (f_ag0 : (List Token) → Int → Stmt → Int → Option (Stmt × Int × Int)) (f_ai0 : (List Token) → Int → Stmt → Int → Option (Stmt × Int × Int)) (l : List Token) (depth : Int) (v4 : Int) (v8 : List UInt8) (r12 : Expr × Int × Int) (v17 : List Expr) (v18 : Int) (v19 : Int) (v20 : List UInt8) (v21 : Int) : Option (Stmt × Int × Int) :=
 Option.bind (f_ai0 l v21 (⟨v4, v8, 0, r12.1, (⟨v18, v19, v20, v17⟩ : Expr), ([] : List Stmt), ([] : List Stmt)⟩ : Stmt) depth) fun r22 =>
 some ((⟨r22.1.Op, r22.1.Name, r22.1.Max, (⟨r22.1.A.Op, r22.1.A.N, r22.1.A.S, r22.1.A.Args⟩ : Expr), (⟨r22.1.B.Op, r22.1.B.N, r22.1.B.S, r22.1.B.Args⟩ : Expr), r22.1.Body, r22.1.Else⟩ : Stmt), r22.2.1, r22.2.2)
def F_x0_j4 (n : Nat) (f_u0 : (List Token) → Int → Int → Option ((List Stmt) × Int × Int)) (f_x0 : (List Token) → Int → Int → Option (Stmt × Int × Int)) (f_ag0 : (List Token) → Int → Stmt → Int → Option (Stmt × Int × Int)) (f_ai0 : (List Token) → Int → Stmt → Int → Option (Stmt × Int × Int)) (l : List Token) (r12 : Expr × Int × Int) (depth : Int) (v4 : Int) (v8 : List UInt8) (v14 : List UInt8) : Option (Stmt × Int × Int) :=
 Option.bind (F_aw0 n l r12.2.1 ([v14] : List (List UInt8))) fun r15 =>
 bif (!decide (r15.2 = 0)) then (
 some ((⟨v4, v8, 0, r12.1, (⟨0, 0, ([] : List UInt8), ([] : List Expr)⟩ : Expr), ([] : List Stmt), ([] : List Stmt)⟩ : Stmt), r15.1, r15.2))
 else (
 Option.bind (F_aa0 n l r15.1 1 0) fun r16 =>
 bif (!decide (r16.2.2 = 0)) then (
 some ((⟨v4, v8, 0, r12.1, r16.1, ([] : List Stmt), ([] : List Stmt)⟩ : Stmt), r16.2.1, r16.2.2))
 else (
 F_x0_j3 n f_u0 f_x0 f_ag0 f_ai0 l depth v4 v8 r12 r16.1.Args r16.1.Op r16.1.N r16.1.S r16.2.1))
def F_x0_j2 (n : Nat) (f_u0 : (List Token) → Int → Int → Option ((List Stmt) × Int × Int)) (f_x0 : (List Token) → Int → Int → Option (Stmt × Int × Int)) (f_ag0 : (List Token) → Int → Stmt → Int → Option (Stmt × Int × Int)) (f_ai0 : (List Token) → Int → Stmt → Int → Option (Stmt × Int × Int)) (l : List Token) (depth : Int) (v4 : Int) (v8 : List UInt8) (v9 : Int) : Option (Stmt × Int × Int) :=
 bif (decide (v4 = 8)) then (
 Option.bind (f_ag0 l v9 (⟨v4, v8, 0, (⟨0, 0, ([] : List UInt8), ([] : List Expr)⟩ : Expr), (⟨0, 0, ([] : List UInt8), ([] : List Expr)⟩ : Expr), ([] : List Stmt), ([] : List Stmt)⟩ : Stmt) depth) fun r11 =>
 some ((⟨r11.1.Op, r11.1.Name, r11.1.Max, (⟨r11.1.A.Op, r11.1.A.N, r11.1.A.S, r11.1.A.Args⟩ : Expr), (⟨r11.1.B.Op, r11.1.B.N, r11.1.B.S, r11.1.B.Args⟩ : Expr), r11.1.Body, r11.1.Else⟩ : Stmt), r11.2.1, r11.2.2))
 else (
 Option.bind (F_aa0 n l v9 1 0) fun r12 =>
 bif (!decide (r12.2.2 = 0)) then (
 some ((⟨v4, v8, 0, r12.1, (⟨0, 0, ([] : List UInt8), ([] : List Expr)⟩ : Expr), ([] : List Stmt), ([] : List Stmt)⟩ : Stmt), r12.2.1, r12.2.2))
 else (
 bif (bif (decide (v4 = 3)) then true else (decide (v4 = 6))) then (
 bif (decide (v4 = 6)) then (
 F_x0_j4 n f_u0 f_x0 f_ag0 f_ai0 l r12 depth v4 v8 ([116, 111] : List UInt8))
 else (
 F_x0_j4 n f_u0 f_x0 f_ag0 f_ai0 l r12 depth v4 v8 ([61] : List UInt8)))
 else (
 F_x0_j3 n f_u0 f_x0 f_ag0 f_ai0 l depth v4 v8 r12 ([] : List Expr) 0 0 ([] : List UInt8) r12.2.1)))
def F_x0_j1 (n : Nat) (f_u0 : (List Token) → Int → Int → Option ((List Stmt) × Int × Int)) (f_x0 : (List Token) → Int → Int → Option (Stmt × Int × Int)) (f_ag0 : (List Token) → Int → Stmt → Int → Option (Stmt × Int × Int)) (f_ai0 : (List Token) → Int → Stmt → Int → Option (Stmt × Int × Int)) (l : List Token) (depth : Int) (v4 : Int) (v5 : Int) : Option (Stmt × Int × Int) :=
 bif (bif (bif (decide (v4 = 1)) then true else (decide (v4 = 2))) then true else (decide (v4 = 6))) then (
 Option.bind (F_dv0 n l (IntKind.i64.wrap (v5 + 1)) 1) fun r6 =>
 bif (!decide (r6.2.2 = 0)) then (
 some ((⟨v4, ([] : List UInt8), 0, (⟨0, 0, ([] : List UInt8), ([] : List Expr)⟩ : Expr), (⟨0, 0, ([] : List UInt8), ([] : List Expr)⟩ : Expr), ([] : List Stmt), ([] : List Stmt)⟩ : Stmt), r6.2.1, r6.2.2))
 else (
 Option.bind (F_aw0 n l r6.2.1 ([([61] : List UInt8)] : List (List UInt8))) fun r7 =>
 bif (!decide (r7.2 = 0)) then (
 some ((⟨v4, r6.1.Text, 0, (⟨0, 0, ([] : List UInt8), ([] : List Expr)⟩ : Expr), (⟨0, 0, ([] : List UInt8), ([] : List Expr)⟩ : Expr), ([] : List Stmt), ([] : List Stmt)⟩ : Stmt), r7.1, r7.2))
 else (
 F_x0_j2 n f_u0 f_x0 f_ag0 f_ai0 l depth v4 r6.1.Text r7.1)))
 else (
 F_x0_j2 n f_u0 f_x0 f_ag0 f_ai0 l depth v4 ([] : List UInt8) (IntKind.i64.wrap (v5 + 1)))
def B_x0 (n : Nat) (f_u0 : (List Token) → Int → Int → Option ((List Stmt) × Int × Int)) (f_x0 : (List Token) → Int → Int → Option (Stmt × Int × Int)) (f_ag0 : (List Token) → Int → Stmt → Int → Option (Stmt × Int × Int)) (f_ai0 : (List Token) → Int → Stmt → Int → Option (Stmt × Int × Int)) (l : List Token) (at_ : Int) (depth : Int) : Option (Stmt × Int × Int) :=
 Option.bind (F_ch0 n l at_) fun r1 =>
 bif (decide (r1 = 0)) then (
 ass ((decide (((l.length : Nat) : Int) ≤ at_)) || inB at_ l.length) <|
 bif (bif (decide (((l.length : Nat) : Int) ≤ at_)) then true else (!decide ((l.getD (at_).toNat default).Kind = 1))) then (
 Option.bind (F_eh0 n l at_) fun r3 =>
 some ((⟨r1, ([] : List UInt8), 0, (⟨0, 0, ([] : List UInt8), ([] : List Expr)⟩ : Expr), (⟨0, 0, ([] : List UInt8), ([] : List Expr)⟩ : Expr), ([] : List Stmt), ([] : List Stmt)⟩ : Stmt), at_, r3))
 else (
 F_x0_j1 n f_u0 f_x0 f_ag0 f_ai0 l depth 2 (IntKind.i64.wrap (at_ - 1))))
 else (
 F_x0_j1 n f_u0 f_x0 f_ag0 f_ai0 l depth r1 at_)
def B_ag0 (n : Nat) (f_u0 : (List Token) → Int → Int → Option ((List Stmt) × Int × Int)) (f_x0 : (List Token) → Int → Int → Option (Stmt × Int × Int)) (f_ag0 : (List Token) → Int → Stmt → Int → Option (Stmt × Int × Int)) (f_ai0 : (List Token) → Int → Stmt → Int → Option (Stmt × Int × Int)) (l : List Token) (at_ : Int) (s : Stmt) (depth : Int) : Option (Stmt × Int × Int) :=
 Option.bind (F_dv0 n l at_ 3) fun r1 =>
 bif (!decide (r1.2.2 = 0)) then (
 some ((⟨s.Op, s.Name, s.Max, (⟨s.A.Op, s.A.N, s.A.S, s.A.Args⟩ : Expr), (⟨s.B.Op, s.B.N, s.B.S, s.B.Args⟩ : Expr), s.Body, s.Else⟩ : Stmt), r1.2.1, r1.2.2))
 else (
 bif (decide (s.Op = 8)) then (
 Option.bind (F_aw0 n l r1.2.1 ([([59] : List UInt8)] : List (List UInt8))) fun r4 =>
 some ((⟨s.Op, s.Name, r1.1.N, (⟨s.A.Op, s.A.N, s.A.S, s.A.Args⟩ : Expr), (⟨s.B.Op, s.B.N, s.B.S, s.B.Args⟩ : Expr), s.Body, s.Else⟩ : Stmt), r4.1, r4.2))
 else (
 Option.bind (f_u0 l r1.2.1 (IntKind.i64.wrap (depth + 1))) fun r5 =>
 some ((⟨s.Op, s.Name, r1.1.N, (⟨s.A.Op, s.A.N, s.A.S, s.A.Args⟩ : Expr), (⟨s.B.Op, s.B.N, s.B.S, s.B.Args⟩ : Expr), r5.1, s.Else⟩ : Stmt), r5.2.1, r5.2.2)))
def F_ai0_j1 (n : Nat) (f_u0 : (List Token) → Int → Int → Option ((List Stmt) × Int × Int)) (f_x0 : (List Token) → Int → Int → Option (Stmt × Int × Int)) (f_ag0 : (List Token) → Int → Stmt → Int → Option (Stmt × Int × Int)) (f_ai0 : (List Token) → Int → Stmt → Int → Option (Stmt × Int × Int)) (s : Stmt) (r6 : (List Stmt) × Int × Int) (v9 : List Stmt) (v10 : Int) (v11 : Int) : Option (Stmt × Int × Int) :=
 some ((⟨s.Op, s.Name, s.Max, (⟨s.A.Op, s.A.N, s.A.S, s.A.Args⟩ : Expr), (⟨s.B.Op, s.B.N, s.B.S, s.B.Args⟩ : Expr), r6.1, v9⟩ : Stmt), v10, v11)
def B_ai0 (n : Nat) (f_u0 : (List Token) → Int → Int → Option ((List Stmt) × Int × Int)) (f_x0 : (List Token) → Int → Int → Option (Stmt × Int × Int)) (f_ag0 : (List Token) → Int → Stmt → Int → Option (Stmt × Int × Int)) (f_ai0 : (List Token) → Int → Stmt → Int → Option (Stmt × Int × Int)) (l : List Token) (at_ : Int) (s : Stmt) (depth : Int) : Option (Stmt × Int × Int) :=
 bif (decide (s.Op = 6)) then (
 Option.bind (F_aw0 n l at_ ([([109, 97, 120] : List UInt8)] : List (List UInt8))) fun r2 =>
 bif (!decide (r2.2 = 0)) then (
 some ((⟨s.Op, s.Name, s.Max, (⟨s.A.Op, s.A.N, s.A.S, s.A.Args⟩ : Expr), (⟨s.B.Op, s.B.N, s.B.S, s.B.Args⟩ : Expr), s.Body, s.Else⟩ : Stmt), r2.1, r2.2))
 else (
 Option.bind (f_ag0 l r2.1 (⟨s.Op, s.Name, s.Max, (⟨s.A.Op, s.A.N, s.A.S, s.A.Args⟩ : Expr), (⟨s.B.Op, s.B.N, s.B.S, s.B.Args⟩ : Expr), s.Body, s.Else⟩ : Stmt) depth) fun r4 =>
 some ((⟨r4.1.Op, r4.1.Name, r4.1.Max, (⟨r4.1.A.Op, r4.1.A.N, r4.1.A.S, r4.1.A.Args⟩ : Expr), (⟨r4.1.B.Op, r4.1.B.N, r4.1.B.S, r4.1.B.Args⟩ : Expr), r4.1.Body, r4.1.Else⟩ : Stmt), r4.2.1, r4.2.2)))
 else (
 bif (decide (s.Op = 5)) then (
 Option.bind (f_u0 l at_ (IntKind.i64.wrap (depth + 1))) fun r6 =>
 Option.bind (bif (decide (r6.2.2 = 0)) then F_cn0 n l r6.2.1 ([101, 108, 115, 101] : List UInt8) else some default) fun r7 =>
 bif (bif (decide (r6.2.2 = 0)) then r7 else false) then (
 Option.bind (f_u0 l (IntKind.i64.wrap (r6.2.1 + 1)) (IntKind.i64.wrap (depth + 1))) fun r8 =>
 F_ai0_j1 n f_u0 f_x0 f_ag0 f_ai0 s r6 r8.1 r8.2.1 r8.2.2)
 else (
 F_ai0_j1 n f_u0 f_x0 f_ag0 f_ai0 s r6 s.Else r6.2.1 r6.2.2))
 else (
 Option.bind (F_aw0 n l at_ ([([59] : List UInt8)] : List (List UInt8))) fun r13 =>
 some ((⟨s.Op, s.Name, s.Max, (⟨s.A.Op, s.A.N, s.A.S, s.A.Args⟩ : Expr), (⟨s.B.Op, s.B.N, s.B.S, s.B.Args⟩ : Expr), s.Body, s.Else⟩ : Stmt), r13.1, r13.2)))
def FS_u0 : Nat → ((List Token) → Int → Int → Option ((List Stmt) × Int × Int)) × ((List Token) → Int → Int → Option (Stmt × Int × Int)) × ((List Token) → Int → Stmt → Int → Option (Stmt × Int × Int)) × ((List Token) → Int → Stmt → Int → Option (Stmt × Int × Int))
 | 0 => (fun _ _ _ => none, fun _ _ _ => none, fun _ _ _ _ => none, fun _ _ _ _ => none)
 | m + 1 => (B_u0 m ((FS_u0 m).1) ((FS_u0 m).2.1) ((FS_u0 m).2.2.1) ((FS_u0 m).2.2.2), B_x0 m ((FS_u0 m).1) ((FS_u0 m).2.1) ((FS_u0 m).2.2.1) ((FS_u0 m).2.2.2), B_ag0 m ((FS_u0 m).1) ((FS_u0 m).2.1) ((FS_u0 m).2.2.1) ((FS_u0 m).2.2.2), B_ai0 m ((FS_u0 m).1) ((FS_u0 m).2.1) ((FS_u0 m).2.2.1) ((FS_u0 m).2.2.2))
def F_u0 (n : Nat) : (List Token) → Int → Int → Option ((List Stmt) × Int × Int) := (FS_u0 n).1
def F_x0 (n : Nat) : (List Token) → Int → Int → Option (Stmt × Int × Int) := (FS_u0 n).2.1
def F_ag0 (n : Nat) : (List Token) → Int → Stmt → Int → Option (Stmt × Int × Int) := (FS_u0 n).2.2.1
def F_ai0 (n : Nat) : (List Token) → Int → Stmt → Int → Option (Stmt × Int × Int) := (FS_u0 n).2.2.2
def F_bi0_j2 (n : Nat) (k1 : Int → (List Param) → Option ((List Param) × Int × Int)) (l : List Token) (r18 : Int × Int) (v16 : List Param) (r17 : Token × Int × Int) (v23 : Int) : Option ((List Param) × Int × Int) :=
 ass (room (v16.length + ([(⟨r17.1.Text, v23⟩ : Param)] : List Param).length) 24) <|
 Option.bind (F_cn0 n l (IntKind.i64.wrap (r18.1 + 1)) ([41] : List UInt8)) fun r25 =>
 bif r25 then (
 some ((v16 ++ ([(⟨r17.1.Text, v23⟩ : Param)] : List Param)), (IntKind.i64.wrap ((IntKind.i64.wrap (r18.1 + 1)) + 1)), 0))
 else (
 Option.bind (F_aw0 n l (IntKind.i64.wrap (r18.1 + 1)) ([([44] : List UInt8)] : List (List UInt8))) fun r26 =>
 bif (!decide (r26.2 = 0)) then (
 some (([] : List Param), r26.1, r26.2))
 else (
 k1 r26.1 (v16 ++ ([(⟨r17.1.Text, v23⟩ : Param)] : List Param))))
def F_bi0_b1 (n : Nat) (l : List Token) (k1 : Int → (List Param) → Option ((List Param) × Int × Int)) (v15 : Int) (v16 : List Param) : Option ((List Param) × Int × Int) :=
 Option.bind (F_dv0 n l v15 1) fun r17 =>
 bif (!decide (r17.2.2 = 0)) then (
 some (([] : List Param), r17.2.1, r17.2.2))
 else (
 Option.bind (F_aw0 n l r17.2.1 ([([58] : List UInt8)] : List (List UInt8))) fun r18 =>
 bif (!decide (r18.2 = 0)) then (
 some (([] : List Param), r18.1, r18.2))
 else (
 Option.bind (F_cn0 n l r18.1 ([105, 110, 116] : List UInt8)) fun r19 =>
 bif r19 then (
 F_bi0_j2 n k1 l r18 v16 r17 1)
 else (
 Option.bind (F_cn0 n l r18.1 ([115, 116, 114] : List UInt8)) fun r20 =>
 bif r20 then (
 F_bi0_j2 n k1 l r18 v16 r17 2)
 else (
 Option.bind (F_cn0 n l r18.1 ([98, 111, 111, 108] : List UInt8)) fun r21 =>
 bif r21 then (
 F_bi0_j2 n k1 l r18 v16 r17 3)
 else (
 Option.bind (F_eh0 n l r18.1) fun r22 =>
 some (([] : List Param), r18.1, r22))))))
def F_bi0_l1 (n : Nat) (l : List Token) : Nat → Int → (List Param) → Option ((List Param) × Int × Int)
 | 0 => fun _ _ => none
 | m + 1 => F_bi0_b1 n l (F_bi0_l1 n l m)
def F_bi0 (n : Nat) (l : List Token) (at_ : Int) : Option ((List Param) × Int × Int) :=
 Option.bind (F_cn0 n l at_ ([41] : List UInt8)) fun r1 =>
 bif r1 then (
 some (([] : List Param), (IntKind.i64.wrap (at_ + 1)), 0))
 else (
 F_bi0_l1 n l n at_ ([] : List Param))
def F_et0 (n : Nat) (l : List Token) (at_ : Int) : Option (Proc × Int × Int) :=
 Option.bind (F_aw0 n l at_ ([([112, 114, 111, 99] : List UInt8)] : List (List UInt8))) fun r1 =>
 bif (!decide (r1.2 = 0)) then (
 some ((⟨([] : List UInt8), ([] : List Param), ([] : List Stmt)⟩ : Proc), r1.1, r1.2))
 else (
 Option.bind (F_dv0 n l r1.1 1) fun r3 =>
 bif (!decide (r3.2.2 = 0)) then (
 some ((⟨([] : List UInt8), ([] : List Param), ([] : List Stmt)⟩ : Proc), r3.2.1, r3.2.2))
 else (
 Option.bind (F_aw0 n l r3.2.1 ([([40] : List UInt8)] : List (List UInt8))) fun r5 =>
 bif (!decide (r5.2 = 0)) then (
 some ((⟨([] : List UInt8), ([] : List Param), ([] : List Stmt)⟩ : Proc), r5.1, r5.2))
 else (
 Option.bind (F_bi0 n l r5.1) fun r7 =>
 bif (!decide (r7.2.2 = 0)) then (
 some ((⟨([] : List UInt8), ([] : List Param), ([] : List Stmt)⟩ : Proc), r7.2.1, r7.2.2))
 else (
 Option.bind (F_u0 n l r7.2.1 0) fun r9 =>
 some ((⟨r3.1.Text, r7.1, r9.1⟩ : Proc), r9.2.1, r9.2.2)))))
def F_fg0 (n : Nat) (src : List UInt8) : Option (Proc × Int × Int) :=
 Option.bind (F_bq0 n src) fun r1 =>
 bif (!decide (r1.2.2 = 0)) then (
 some ((⟨([] : List UInt8), ([] : List Param), ([] : List Stmt)⟩ : Proc), r1.2.1, r1.2.2))
 else (
 Option.bind (F_et0 n r1.1 0) fun r3 =>
 Option.bind (F_fc0 n r1.1 r3.2.1 r3.2.2) fun r4 =>
 bif (!decide (r4 = 0)) then (
 Option.bind (F_fb0 n r1.1 r3.2.1) fun r6 =>
 some ((⟨([] : List UInt8), ([] : List Param), ([] : List Stmt)⟩ : Proc), r6, r4))
 else (
 Option.bind (F_bd0 n r3.1) fun r7 =>
 bif (!decide (r7 = 0)) then (
 some ((⟨([] : List UInt8), ([] : List Param), ([] : List Stmt)⟩ : Proc), 0, r7))
 else (
 some (r3.1, 0, 0))))
def F_bm0_j1 (n : Nat) : Option Bool :=
 some true
def F_bm0_b2 (n : Nat) (s : List UInt8) (k2 : Int → Option Bool) (v4 : Int) : Option Bool :=
 bif (decide (v4 < ((s.length : Nat) : Int))) then (
 ass (inB v4 s.length) <|
 ass ((decide ((((s.getD (v4).toNat 0).toNat : Nat) : Int) < 32)) || inB v4 s.length) <|
 bif (bif (decide ((((s.getD (v4).toNat 0).toNat : Nat) : Int) < 32)) then true else (decide (126 < (((s.getD (v4).toNat 0).toNat : Nat) : Int)))) then (
 some false)
 else (
 k2 (IntKind.i64.wrap (v4 + 1))))
 else (
 F_bm0_j1 n)
def F_bm0_l2 (n : Nat) (s : List UInt8) : Nat → Int → Option Bool
 | 0 => fun _ => none
 | m + 1 => F_bm0_b2 n s (F_bm0_l2 n s m)
def F_bm0 (n : Nat) (s : List UInt8) : Option Bool :=
 F_bm0_l2 n s n 0
def F_bo0 (n : Nat) (b0_1_ : List Int) : Option ((List UInt8) × (List Int)) :=
 ass (bytesOk b0_1_ && decide (b0_1_.length ≤ 9223372036854775807)) <| some (toB b0_1_, b0_1_)
def F_bj0 (n : Nat) (b0_1_ : List Int) : Option Unit :=
 some ()
def F_ak0 (n : Nat) (c : Int) (b0_1_ : List Int) : Option (List Int) :=
 Option.bind (F_bj0 n b0_1_) fun r1 =>
 ass (room (b0_1_.length + ([c] : List Int).length) 1) <|
 some (b0_1_ ++ ([c] : List Int))
def F_av0_j1 (n : Nat) (v25 : List Int) : Option ((List UInt8) × Int) :=
 Option.bind (F_ak0 n 34 v25) fun r26 =>
 Option.bind (F_bo0 n r26) fun r27 =>
 some (r27.1, 0)
def F_av0_j3 (n : Nat) (k2 : (List Int) → Int → Option ((List UInt8) × Int)) (s : List UInt8) (v15 : Int) (v22 : List Int) : Option ((List UInt8) × Int) :=
 k2 v22 (IntKind.i64.wrap (v15 + 1))
def F_av0_j4 (n : Nat) (k2 : (List Int) → Int → Option ((List UInt8) × Int)) (s : List UInt8) (v15 : Int) (v19 : List Int) : Option ((List UInt8) × Int) :=
 ass (inB v15 s.length) <|
 Option.bind (F_ak0 n (((s.getD (v15).toNat 0).toNat : Nat) : Int) v19) fun r21 =>
 F_av0_j3 n k2 s v15 r21
def F_av0_b2 (n : Nat) (s : List UInt8) (k2 : (List Int) → Int → Option ((List UInt8) × Int)) (v14 : List Int) (v15 : Int) : Option ((List UInt8) × Int) :=
 bif (decide (v15 < ((s.length : Nat) : Int))) then (
 ass (inB v15 s.length) <|
 ass ((decide ((((s.getD (v15).toNat 0).toNat : Nat) : Int) = 34)) || inB v15 s.length) <|
 bif (bif (decide ((((s.getD (v15).toNat 0).toNat : Nat) : Int) = 34)) then true else (decide ((((s.getD (v15).toNat 0).toNat : Nat) : Int) = 92))) then (
 Option.bind (F_ak0 n 92 v14) fun r18 =>
 F_av0_j4 n k2 s v15 r18)
 else (
 F_av0_j4 n k2 s v15 v14))
 else (
 F_av0_j1 n v14)
def F_av0_l2 (n : Nat) (s : List UInt8) : Nat → (List Int) → Int → Option ((List UInt8) × Int)
 | 0 => fun _ _ => none
 | m + 1 => F_av0_b2 n s (F_av0_l2 n s m)
def F_av0 (n : Nat) (s : List UInt8) : Option ((List UInt8) × Int) :=
 bif (decide (64 < ((s.length : Nat) : Int))) then (
 some (([] : List UInt8), 2))
 else (
 Option.bind (F_bm0 n s) fun r2 =>
 bif (!r2) then (
 some (([] : List UInt8), 1))
 else (
 Option.bind (F_ak0 n 34 ([] : List Int)) fun r4 =>
 F_av0_l2 n s n r4 0))
def F_eb0 (n : Nat) (n_ : Int) : Option (List UInt8) :=
 Option.bind (F_cu0 n n_ 10) fun r1 =>
 some r1
def F_ar0_j1 (n : Nat) : Option Int :=
 some 9
def F_ar0_j4 (n : Nat) (op : Int) (v3 : Bool) : Option Int :=
 bif v3 then (
 some 7)
 else (
 bif (decide (op = 9)) then (
 some 8)
 else (
 F_ar0_j1 n))
def F_ar0_j3 (n : Nat) (op : Int) (v2 : Bool) : Option Int :=
 bif v2 then (
 some 6)
 else (
 bif (decide (op = 6)) then (
 F_ar0_j4 n op (decide (op = 6)))
 else (
 bif (decide (op = 7)) then (
 F_ar0_j4 n op (decide (op = 7)))
 else (
 F_ar0_j4 n op (decide (op = 8)))))
def F_ar0_j2 (n : Nat) (op : Int) (v1 : Bool) : Option Int :=
 bif v1 then (
 some 4)
 else (
 bif (decide (op = 19)) then (
 some 5)
 else (
 bif (decide (op = 4)) then (
 F_ar0_j3 n op (decide (op = 4)))
 else (
 F_ar0_j3 n op (decide (op = 5)))))
def F_ar0 (n : Nat) (op : Int) : Option Int :=
 bif (decide (op = 17)) then (
 some 1)
 else (
 bif (decide (op = 16)) then (
 some 2)
 else (
 bif (decide (op = 18)) then (
 some 3)
 else (
 bif (decide (op = 10)) then (
 F_ar0_j2 n op (decide (op = 10)))
 else (
 bif (decide (op = 11)) then (
 F_ar0_j2 n op (decide (op = 11)))
 else (
 bif (decide (op = 12)) then (
 F_ar0_j2 n op (decide (op = 12)))
 else (
 bif (decide (op = 13)) then (
 F_ar0_j2 n op (decide (op = 13)))
 else (
 bif (decide (op = 14)) then (
 F_ar0_j2 n op (decide (op = 14)))
 else (
 F_ar0_j2 n op (decide (op = 15))))))))))
def F_dm0 (n : Nat) (op : Int) : Option (List UInt8) :=
 bif (decide (op = 17)) then (
 some ([111, 114] : List UInt8))
 else (
 bif (decide (op = 16)) then (
 some ([97, 110, 100] : List UInt8))
 else (
 bif (decide (op = 10)) then (
 some ([61, 61] : List UInt8))
 else (
 bif (decide (op = 11)) then (
 some ([33, 61] : List UInt8))
 else (
 bif (decide (op = 12)) then (
 some ([60] : List UInt8))
 else (
 bif (decide (op = 13)) then (
 some ([60, 61] : List UInt8))
 else (
 bif (decide (op = 14)) then (
 some ([62] : List UInt8))
 else (
 bif (decide (op = 15)) then (
 some ([62, 61] : List UInt8))
 else (
 bif (decide (op = 19)) then (
 some ([43, 43] : List UInt8))
 else (
 bif (decide (op = 4)) then (
 some ([43] : List UInt8))
 else (
 bif (decide (op = 5)) then (
 some ([45] : List UInt8))
 else (
 bif (decide (op = 6)) then (
 some ([42] : List UInt8))
 else (
 bif (decide (op = 7)) then (
 some ([47] : List UInt8))
 else (
 some ([37] : List UInt8))))))))))))))
def F_dn0 (n : Nat) (op : Int) : Option (List UInt8) :=
 bif (decide (op = 20)) then (
 some ([116, 101, 120, 116] : List UInt8))
 else (
 bif (decide (op = 21)) then (
 some ([108, 101, 110] : List UInt8))
 else (
 bif (decide (op = 22)) then (
 some ([103, 101, 116, 105, 110, 116] : List UInt8))
 else (
 bif (decide (op = 23)) then (
 some ([103, 101, 116, 115, 116, 114] : List UInt8))
 else (
 bif (decide (op = 24)) then (
 some ([104, 97, 115] : List UInt8))
 else (
 bif (decide (op = 25)) then (
 some ([110, 111, 119] : List UInt8))
 else (
 bif (decide (op = 26)) then (
 some ([114, 97, 110, 100, 111, 109] : List UInt8))
 else (
 bif (decide (op = 27)) then (
 some ([110, 111, 100, 101] : List UInt8))
 else (
 some ([] : List UInt8)))))))))
def B_s0 (n : Nat) (f_s0 : Expr → Option (List UInt8)) (f_an0 : Expr → Int → Option (List UInt8)) (e : Expr) : Option (List UInt8) :=
 Option.bind (F_ar0 n e.Op) fun r1 =>
 bif (decide (e.Op = 1)) then (
 Option.bind (F_eb0 n e.N) fun r3 =>
 some r3)
 else (
 bif (decide (e.Op = 2)) then (
 Option.bind (F_av0 n e.S) fun r5 =>
 some r5.1)
 else (
 bif (decide (e.Op = 3)) then (
 some e.S)
 else (
 bif (decide (e.Op = 18)) then (
 ass (inB 0 e.Args.length) <|
 Option.bind (f_an0 (e.Args.getD 0 default) r1) fun r9 =>
 ass (strRoom (([110, 111, 116, 32] : List UInt8).length + r9.length)) <|
 some (([110, 111, 116, 32] : List UInt8) ++ r9))
 else (
 bif (decide (e.Op = 9)) then (
 ass (inB 0 e.Args.length) <|
 Option.bind (f_an0 (e.Args.getD 0 default) r1) fun r13 =>
 ass (strRoom (([45] : List UInt8).length + r13.length)) <|
 some (([45] : List UInt8) ++ r13))
 else (
 bif (bif (decide (r1 = 9)) then (decide (((e.Args.length : Nat) : Int) = 0)) else false) then (
 Option.bind (F_dn0 n e.Op) fun r16 =>
 ass (strRoom (r16.length + ([40, 41] : List UInt8).length)) <|
 some (r16 ++ ([40, 41] : List UInt8)))
 else (
 bif (decide (r1 = 9)) then (
 Option.bind (F_dn0 n e.Op) fun r19 =>
 ass (strRoom (r19.length + ([40] : List UInt8).length)) <|
 ass (inB 0 e.Args.length) <|
 Option.bind (f_s0 (e.Args.getD 0 default)) fun r22 =>
 ass (strRoom ((r19 ++ ([40] : List UInt8)).length + r22.length)) <|
 ass (strRoom (((r19 ++ ([40] : List UInt8)) ++ r22).length + ([41] : List UInt8).length)) <|
 some (((r19 ++ ([40] : List UInt8)) ++ r22) ++ ([41] : List UInt8)))
 else (
 bif (decide (r1 = 4)) then (
 ass (inB 0 e.Args.length) <|
 Option.bind (f_an0 (e.Args.getD 0 default) 5) fun r27 =>
 ass (strRoom (r27.length + ([32] : List UInt8).length)) <|
 Option.bind (F_dm0 n e.Op) fun r29 =>
 ass (strRoom ((r27 ++ ([32] : List UInt8)).length + r29.length)) <|
 ass (strRoom (((r27 ++ ([32] : List UInt8)) ++ r29).length + ([32] : List UInt8).length)) <|
 ass (inB 1 e.Args.length) <|
 Option.bind (f_an0 (e.Args.getD 1 default) 5) fun r33 =>
 ass (strRoom ((((r27 ++ ([32] : List UInt8)) ++ r29) ++ ([32] : List UInt8)).length + r33.length)) <|
 some ((((r27 ++ ([32] : List UInt8)) ++ r29) ++ ([32] : List UInt8)) ++ r33))
 else (
 ass (inB 0 e.Args.length) <|
 Option.bind (f_an0 (e.Args.getD 0 default) r1) fun r36 =>
 ass (strRoom (r36.length + ([32] : List UInt8).length)) <|
 Option.bind (F_dm0 n e.Op) fun r38 =>
 ass (strRoom ((r36 ++ ([32] : List UInt8)).length + r38.length)) <|
 ass (strRoom (((r36 ++ ([32] : List UInt8)) ++ r38).length + ([32] : List UInt8).length)) <|
 ass (inB 1 e.Args.length) <|
 Option.bind (f_an0 (e.Args.getD 1 default) (IntKind.i64.wrap (r1 + 1))) fun r42 =>
 ass (strRoom ((((r36 ++ ([32] : List UInt8)) ++ r38) ++ ([32] : List UInt8)).length + r42.length)) <|
 some ((((r36 ++ ([32] : List UInt8)) ++ r38) ++ ([32] : List UInt8)) ++ r42)))))))))
def B_an0 (n : Nat) (f_s0 : Expr → Option (List UInt8)) (f_an0 : Expr → Int → Option (List UInt8)) (e : Expr) (least : Int) : Option (List UInt8) :=
 Option.bind (F_ar0 n e.Op) fun r1 =>
 bif (decide (r1 < least)) then (
 Option.bind (f_s0 e) fun r3 =>
 ass (strRoom (([40] : List UInt8).length + r3.length)) <|
 ass (strRoom ((([40] : List UInt8) ++ r3).length + ([41] : List UInt8).length)) <|
 some ((([40] : List UInt8) ++ r3) ++ ([41] : List UInt8)))
 else (
 Option.bind (f_s0 e) fun r6 =>
 some r6)
def FS_s0 : Nat → (Expr → Option (List UInt8)) × (Expr → Int → Option (List UInt8))
 | 0 => (fun _ => none, fun _ _ => none)
 | m + 1 => (B_s0 m ((FS_s0 m).1) ((FS_s0 m).2), B_an0 m ((FS_s0 m).1) ((FS_s0 m).2))
def F_s0 (n : Nat) : Expr → Option (List UInt8) := (FS_s0 n).1
def F_an0 (n : Nat) : Expr → Int → Option (List UInt8) := (FS_s0 n).2
def F_dd0 (n : Nat) (ty : Int) : Option (List UInt8) :=
 bif (decide (ty = 1)) then (
 some ([105, 110, 116] : List UInt8))
 else (
 bif (decide (ty = 2)) then (
 some ([115, 116, 114] : List UInt8))
 else (
 some ([98, 111, 111, 108] : List UInt8)))
def F_bp0 (n : Nat) (op : Int) : Option (Unit ⊕ Unit ⊕ Unit ⊕ Unit ⊕ Unit ⊕ Unit ⊕ Unit ⊕ Unit) :=
 bif (decide (op = 1)) then (
 some (.inl ()))
 else (
 bif (decide (op = 2)) then (
 some (.inr (.inl ())))
 else (
 bif (decide (op = 3)) then (
 some (.inr (.inr (.inl ()))))
 else (
 bif (decide (op = 4)) then (
 some (.inr (.inr (.inr (.inl ())))))
 else (
 bif (decide (op = 5)) then (
 some (.inr (.inr (.inr (.inr (.inl ()))))))
 else (
 bif (decide (op = 6)) then (
 some (.inr (.inr (.inr (.inr (.inr (.inl ())))))))
 else (
 bif (decide (op = 7)) then (
 some (.inr (.inr (.inr (.inr (.inr (.inr (.inl ()))))))))
 else (
 some (.inr (.inr (.inr (.inr (.inr (.inr (.inr ()))))))))))))))
def F_do0 (n : Nat) (n_ : Int) : Option (List UInt8) :=
 Option.bind (F_ef0 n n_ 10) fun r1 =>
 some r1
def F_bf0 (n : Nat) (b0_1_ : List Int) (b0_2_ : Int) : Option Unit :=
 some ()
def F_cf0 (n : Nat) (c : Int) (b0_1_ : List Int) (b0_2_ : Int) : Option (List Int) :=
 Option.bind (F_bf0 n b0_1_ b0_2_) fun r1 =>
 ass (room (b0_1_.length + ([c] : List Int).length) 1) <|
 some (b0_1_ ++ ([c] : List Int))
def F_bk0 (n : Nat) (s : List UInt8) (b0_1_ : List Int) (b0_2_ : Int) : Option (Int × (List Int)) :=
 Option.bind (F_bf0 n b0_1_ b0_2_) fun r1 =>
 ass (room (b0_1_.length + s.length) 1) <|
 some (((s.length : Nat) : Int), (b0_1_ ++ s.map fun b => (b.toNat : Int)))
def F_j0_j2 (n : Nat) (b0_2_ : Int) (v20 : List Int) : Option (List Int) :=
 Option.bind (F_cf0 n 10 v20 b0_2_) fun r21 =>
 some r21
def F_j0_b3 (n : Nat) (parts : List (List UInt8)) (b0_2_ : Int) (k3 : (List Int) → Int → Option (List Int)) (v14 : List Int) (v15 : Int) : Option (List Int) :=
 bif (decide (v15 < ((parts.length : Nat) : Int))) then (
 ass (inB v15 parts.length) <|
 Option.bind (F_bk0 n (parts.getD (v15).toNat default) v14 b0_2_) fun r17 =>
 k3 r17.2 (IntKind.i64.wrap (v15 + 1)))
 else (
 F_j0_j2 n b0_2_ v14)
def F_j0_l3 (n : Nat) (parts : List (List UInt8)) (b0_2_ : Int) : Nat → (List Int) → Int → Option (List Int)
 | 0 => fun _ _ => none
 | m + 1 => F_j0_b3 n parts b0_2_ (F_j0_l3 n parts b0_2_ m)
def F_j0_j1 (n : Nat) (parts : List (List UInt8)) (b0_2_ : Int) (v9 : List Int) : Option (List Int) :=
 F_j0_l3 n parts b0_2_ n v9 0
def F_j0_b4 (n : Nat) (parts : List (List UInt8)) (b0_2_ : Int) (k4 : (List Int) → Int → Option (List Int)) (v4 : List Int) (v5 : Int) : Option (List Int) :=
 bif (decide (v5 < b0_2_)) then (
 Option.bind (F_bk0 n ([32, 32, 32, 32] : List UInt8) v4 b0_2_) fun r6 =>
 k4 r6.2 (IntKind.i64.wrap (v5 + 1)))
 else (
 F_j0_j1 n parts b0_2_ v4)
def F_j0_l4 (n : Nat) (parts : List (List UInt8)) (b0_2_ : Int) : Nat → (List Int) → Int → Option (List Int)
 | 0 => fun _ _ => none
 | m + 1 => F_j0_b4 n parts b0_2_ (F_j0_l4 n parts b0_2_ m)
def F_j0 (n : Nat) (parts : List (List UInt8)) (b0_1_ : List Int) (b0_2_ : Int) : Option (List Int) :=
 F_j0_l4 n parts b0_2_ n b0_1_ 0
def F_dp0 (n : Nat) (s : Stmt) (b0_1_ : List Int) (b0_2_ : Int) : Option (List Int) :=
 Option.bind (F_do0 n s.Max) fun r1 =>
 Option.bind (F_j0 n ([([97, 98, 111, 114, 116, 32] : List UInt8), r1, ([59] : List UInt8)] : List (List UInt8)) b0_1_ b0_2_) fun r2 =>
 some r2
def F_dg0 (n : Nat) (s : Stmt) (b0_1_ : List Int) (b0_2_ : Int) : Option (List Int) :=
 Option.bind (F_s0 n (⟨s.A.Op, s.A.N, s.A.S, s.A.Args⟩ : Expr)) fun r1 =>
 Option.bind (F_j0 n ([s.Name, ([32, 61, 32] : List UInt8), r1, ([59] : List UInt8)] : List (List UInt8)) b0_1_ b0_2_) fun r2 =>
 some r2
def F_dc0 (n : Nat) (s : Stmt) (b0_1_ : List Int) (b0_2_ : Int) : Option (List Int) :=
 Option.bind (F_s0 n (⟨s.A.Op, s.A.N, s.A.S, s.A.Args⟩ : Expr)) fun r1 =>
 Option.bind (F_j0 n ([([108, 101, 116, 32] : List UInt8), s.Name, ([32, 61, 32] : List UInt8), r1, ([59] : List UInt8)] : List (List UInt8)) b0_1_ b0_2_) fun r2 =>
 some r2
def F_dr0 (n : Nat) (s : Stmt) (b0_1_ : List Int) (b0_2_ : Int) : Option (List Int) :=
 Option.bind (F_s0 n (⟨s.A.Op, s.A.N, s.A.S, s.A.Args⟩ : Expr)) fun r1 =>
 Option.bind (F_j0 n ([([101, 109, 105, 116, 32] : List UInt8), r1, ([59] : List UInt8)] : List (List UInt8)) b0_1_ b0_2_) fun r2 =>
 some r2
def F_dx0 (n : Nat) (s : Stmt) (b0_1_ : List Int) (b0_2_ : Int) : Option (List Int) :=
 Option.bind (F_s0 n (⟨s.A.Op, s.A.N, s.A.S, s.A.Args⟩ : Expr)) fun r1 =>
 Option.bind (F_s0 n (⟨s.B.Op, s.B.N, s.B.S, s.B.Args⟩ : Expr)) fun r2 =>
 Option.bind (F_j0 n ([([112, 117, 116, 32] : List UInt8), r1, ([32, 61, 32] : List UInt8), r2, ([59] : List UInt8)] : List (List UInt8)) b0_1_ b0_2_) fun r3 =>
 some r3
def F_dh0 (n : Nat) (s : Stmt) (b0_1_ : List Int) (b0_2_ : Int) : Option (List Int) :=
 Option.bind (F_s0 n (⟨s.A.Op, s.A.N, s.A.S, s.A.Args⟩ : Expr)) fun r1 =>
 Option.bind (F_j0 n ([([100, 101, 108, 101, 116, 101, 32] : List UInt8), r1, ([59] : List UInt8)] : List (List UInt8)) b0_1_ b0_2_) fun r2 =>
 some r2
def F_f0_j1 (n : Nat) (f_f0 : (List Stmt) → (List Int) → Int → Option ((List Int) × Int)) (f_n0 : Stmt → (List Int) → Int → Option ((List Int) × Int)) (f_q0 : Stmt → (List Int) → Int → Option ((List Int) × Int)) (v32 : List Int) (v33 : Int) : Option ((List Int) × Int) :=
 some (v32, (IntKind.i64.wrap (v33 - 1)))
def F_f0_b2 (n : Nat) (f_f0 : (List Stmt) → (List Int) → Int → Option ((List Int) × Int)) (f_n0 : Stmt → (List Int) → Int → Option ((List Int) × Int)) (f_q0 : Stmt → (List Int) → Int → Option ((List Int) × Int)) (l : List Stmt) (k2 : (List Int) → Int → Int → Option ((List Int) × Int)) (v15 : List Int) (v16 : Int) (v17 : Int) : Option ((List Int) × Int) :=
 bif (decide (v17 < ((l.length : Nat) : Int))) then (
 ass (inB v17 l.length) <|
 Option.bind (F_bp0 n ((l.getD (v17).toNat default).Op)) fun r19 =>
 Sm.on r19 (fun y20_0 =>
 Option.bind (F_dc0 n (⟨(l.getD (v17).toNat default).Op, (l.getD (v17).toNat default).Name, (l.getD (v17).toNat default).Max, (⟨((l.getD (v17).toNat default).A).Op, ((l.getD (v17).toNat default).A).N, ((l.getD (v17).toNat default).A).S, ((l.getD (v17).toNat default).A).Args⟩ : Expr), (⟨((l.getD (v17).toNat default).B).Op, ((l.getD (v17).toNat default).B).N, ((l.getD (v17).toNat default).B).S, ((l.getD (v17).toNat default).B).Args⟩ : Expr), (l.getD (v17).toNat default).Body, (l.getD (v17).toNat default).Else⟩ : Stmt) v15 v16) fun r21 =>
 k2 r21 v16 (IntKind.i64.wrap (v17 + 1))) (fun y20_z0 =>
 Sm.on y20_z0 (fun y20_1 =>
 Option.bind (F_dg0 n (⟨(l.getD (v17).toNat default).Op, (l.getD (v17).toNat default).Name, (l.getD (v17).toNat default).Max, (⟨((l.getD (v17).toNat default).A).Op, ((l.getD (v17).toNat default).A).N, ((l.getD (v17).toNat default).A).S, ((l.getD (v17).toNat default).A).Args⟩ : Expr), (⟨((l.getD (v17).toNat default).B).Op, ((l.getD (v17).toNat default).B).N, ((l.getD (v17).toNat default).B).S, ((l.getD (v17).toNat default).B).Args⟩ : Expr), (l.getD (v17).toNat default).Body, (l.getD (v17).toNat default).Else⟩ : Stmt) v15 v16) fun r22 =>
 k2 r22 v16 (IntKind.i64.wrap (v17 + 1))) (fun y20_z1 =>
 Sm.on y20_z1 (fun y20_2 =>
 Option.bind (F_dx0 n (⟨(l.getD (v17).toNat default).Op, (l.getD (v17).toNat default).Name, (l.getD (v17).toNat default).Max, (⟨((l.getD (v17).toNat default).A).Op, ((l.getD (v17).toNat default).A).N, ((l.getD (v17).toNat default).A).S, ((l.getD (v17).toNat default).A).Args⟩ : Expr), (⟨((l.getD (v17).toNat default).B).Op, ((l.getD (v17).toNat default).B).N, ((l.getD (v17).toNat default).B).S, ((l.getD (v17).toNat default).B).Args⟩ : Expr), (l.getD (v17).toNat default).Body, (l.getD (v17).toNat default).Else⟩ : Stmt) v15 v16) fun r23 =>
 k2 r23 v16 (IntKind.i64.wrap (v17 + 1))) (fun y20_z2 =>
 Sm.on y20_z2 (fun y20_3 =>
 Option.bind (F_dh0 n (⟨(l.getD (v17).toNat default).Op, (l.getD (v17).toNat default).Name, (l.getD (v17).toNat default).Max, (⟨((l.getD (v17).toNat default).A).Op, ((l.getD (v17).toNat default).A).N, ((l.getD (v17).toNat default).A).S, ((l.getD (v17).toNat default).A).Args⟩ : Expr), (⟨((l.getD (v17).toNat default).B).Op, ((l.getD (v17).toNat default).B).N, ((l.getD (v17).toNat default).B).S, ((l.getD (v17).toNat default).B).Args⟩ : Expr), (l.getD (v17).toNat default).Body, (l.getD (v17).toNat default).Else⟩ : Stmt) v15 v16) fun r24 =>
 k2 r24 v16 (IntKind.i64.wrap (v17 + 1))) (fun y20_z3 =>
 Sm.on y20_z3 (fun y20_4 =>
 Option.bind (f_n0 (⟨(l.getD (v17).toNat default).Op, (l.getD (v17).toNat default).Name, (l.getD (v17).toNat default).Max, (⟨((l.getD (v17).toNat default).A).Op, ((l.getD (v17).toNat default).A).N, ((l.getD (v17).toNat default).A).S, ((l.getD (v17).toNat default).A).Args⟩ : Expr), (⟨((l.getD (v17).toNat default).B).Op, ((l.getD (v17).toNat default).B).N, ((l.getD (v17).toNat default).B).S, ((l.getD (v17).toNat default).B).Args⟩ : Expr), (l.getD (v17).toNat default).Body, (l.getD (v17).toNat default).Else⟩ : Stmt) v15 v16) fun r25 =>
 k2 r25.1 r25.2 (IntKind.i64.wrap (v17 + 1))) (fun y20_z4 =>
 Sm.on y20_z4 (fun y20_5 =>
 Option.bind (f_q0 (⟨(l.getD (v17).toNat default).Op, (l.getD (v17).toNat default).Name, (l.getD (v17).toNat default).Max, (⟨((l.getD (v17).toNat default).A).Op, ((l.getD (v17).toNat default).A).N, ((l.getD (v17).toNat default).A).S, ((l.getD (v17).toNat default).A).Args⟩ : Expr), (⟨((l.getD (v17).toNat default).B).Op, ((l.getD (v17).toNat default).B).N, ((l.getD (v17).toNat default).B).S, ((l.getD (v17).toNat default).B).Args⟩ : Expr), (l.getD (v17).toNat default).Body, (l.getD (v17).toNat default).Else⟩ : Stmt) v15 v16) fun r26 =>
 k2 r26.1 r26.2 (IntKind.i64.wrap (v17 + 1))) (fun y20_z5 =>
 Sm.on y20_z5 (fun y20_6 =>
 Option.bind (F_dr0 n (⟨(l.getD (v17).toNat default).Op, (l.getD (v17).toNat default).Name, (l.getD (v17).toNat default).Max, (⟨((l.getD (v17).toNat default).A).Op, ((l.getD (v17).toNat default).A).N, ((l.getD (v17).toNat default).A).S, ((l.getD (v17).toNat default).A).Args⟩ : Expr), (⟨((l.getD (v17).toNat default).B).Op, ((l.getD (v17).toNat default).B).N, ((l.getD (v17).toNat default).B).S, ((l.getD (v17).toNat default).B).Args⟩ : Expr), (l.getD (v17).toNat default).Body, (l.getD (v17).toNat default).Else⟩ : Stmt) v15 v16) fun r27 =>
 k2 r27 v16 (IntKind.i64.wrap (v17 + 1))) (fun y20_7 =>
 Option.bind (F_dp0 n (⟨(l.getD (v17).toNat default).Op, (l.getD (v17).toNat default).Name, (l.getD (v17).toNat default).Max, (⟨((l.getD (v17).toNat default).A).Op, ((l.getD (v17).toNat default).A).N, ((l.getD (v17).toNat default).A).S, ((l.getD (v17).toNat default).A).Args⟩ : Expr), (⟨((l.getD (v17).toNat default).B).Op, ((l.getD (v17).toNat default).B).N, ((l.getD (v17).toNat default).B).S, ((l.getD (v17).toNat default).B).Args⟩ : Expr), (l.getD (v17).toNat default).Body, (l.getD (v17).toNat default).Else⟩ : Stmt) v15 v16) fun r28 =>
 k2 r28 v16 (IntKind.i64.wrap (v17 + 1))))))))))
 else (
 F_f0_j1 n f_f0 f_n0 f_q0 v15 v16)
def F_f0_l2 (n : Nat) (f_f0 : (List Stmt) → (List Int) → Int → Option ((List Int) × Int)) (f_n0 : Stmt → (List Int) → Int → Option ((List Int) × Int)) (f_q0 : Stmt → (List Int) → Int → Option ((List Int) × Int)) (l : List Stmt) : Nat → (List Int) → Int → Int → Option ((List Int) × Int)
 | 0 => fun _ _ _ => none
 | m + 1 => F_f0_b2 n f_f0 f_n0 f_q0 l (F_f0_l2 n f_f0 f_n0 f_q0 l m)
def B_f0 (n : Nat) (f_f0 : (List Stmt) → (List Int) → Int → Option ((List Int) × Int)) (f_n0 : Stmt → (List Int) → Int → Option ((List Int) × Int)) (f_q0 : Stmt → (List Int) → Int → Option ((List Int) × Int)) (l : List Stmt) (b0_1_ : List Int) (b0_2_ : Int) : Option ((List Int) × Int) :=
 F_f0_l2 n f_f0 f_n0 f_q0 l n b0_1_ (IntKind.i64.wrap (b0_2_ + 1)) 0
def F_n0_j1 (n : Nat) (f_f0 : (List Stmt) → (List Int) → Int → Option ((List Int) × Int)) (f_n0 : Stmt → (List Int) → Int → Option ((List Int) × Int)) (f_q0 : Stmt → (List Int) → Int → Option ((List Int) × Int)) (v6 : List Int) (v7 : Int) : Option ((List Int) × Int) :=
 Option.bind (F_j0 n ([([125] : List UInt8)] : List (List UInt8)) v6 v7) fun r8 =>
 some (r8, v7)
def B_n0 (n : Nat) (f_f0 : (List Stmt) → (List Int) → Int → Option ((List Int) × Int)) (f_n0 : Stmt → (List Int) → Int → Option ((List Int) × Int)) (f_q0 : Stmt → (List Int) → Int → Option ((List Int) × Int)) (s : Stmt) (b0_1_ : List Int) (b0_2_ : Int) : Option ((List Int) × Int) :=
 Option.bind (F_s0 n (⟨s.A.Op, s.A.N, s.A.S, s.A.Args⟩ : Expr)) fun r1 =>
 Option.bind (F_j0 n ([([105, 102, 32] : List UInt8), r1, ([32, 123] : List UInt8)] : List (List UInt8)) b0_1_ b0_2_) fun r2 =>
 Option.bind (f_f0 s.Body r2 b0_2_) fun r3 =>
 bif (decide (0 < ((s.Else.length : Nat) : Int))) then (
 Option.bind (F_j0 n ([([125, 32, 101, 108, 115, 101, 32, 123] : List UInt8)] : List (List UInt8)) r3.1 r3.2) fun r4 =>
 Option.bind (f_f0 s.Else r4 r3.2) fun r5 =>
 F_n0_j1 n f_f0 f_n0 f_q0 r5.1 r5.2)
 else (
 F_n0_j1 n f_f0 f_n0 f_q0 r3.1 r3.2)
def B_q0 (n : Nat) (f_f0 : (List Stmt) → (List Int) → Int → Option ((List Int) × Int)) (f_n0 : Stmt → (List Int) → Int → Option ((List Int) × Int)) (f_q0 : Stmt → (List Int) → Int → Option ((List Int) × Int)) (s : Stmt) (b0_1_ : List Int) (b0_2_ : Int) : Option ((List Int) × Int) :=
 Option.bind (F_s0 n (⟨s.A.Op, s.A.N, s.A.S, s.A.Args⟩ : Expr)) fun r1 =>
 Option.bind (F_s0 n (⟨s.B.Op, s.B.N, s.B.S, s.B.Args⟩ : Expr)) fun r2 =>
 Option.bind (F_do0 n s.Max) fun r3 =>
 Option.bind (F_j0 n ([([102, 111, 114, 32] : List UInt8), s.Name, ([32, 61, 32] : List UInt8), r1, ([32, 116, 111, 32] : List UInt8), r2, ([32, 109, 97, 120, 32] : List UInt8), r3, ([32, 123] : List UInt8)] : List (List UInt8)) b0_1_ b0_2_) fun r4 =>
 Option.bind (f_f0 s.Body r4 b0_2_) fun r5 =>
 Option.bind (F_j0 n ([([125] : List UInt8)] : List (List UInt8)) r5.1 r5.2) fun r6 =>
 some (r6, r5.2)
def FS_f0 : Nat → ((List Stmt) → (List Int) → Int → Option ((List Int) × Int)) × (Stmt → (List Int) → Int → Option ((List Int) × Int)) × (Stmt → (List Int) → Int → Option ((List Int) × Int))
 | 0 => (fun _ _ _ => none, fun _ _ _ => none, fun _ _ _ => none)
 | m + 1 => (B_f0 m ((FS_f0 m).1) ((FS_f0 m).2.1) ((FS_f0 m).2.2), B_n0 m ((FS_f0 m).1) ((FS_f0 m).2.1) ((FS_f0 m).2.2), B_q0 m ((FS_f0 m).1) ((FS_f0 m).2.1) ((FS_f0 m).2.2))
def F_f0 (n : Nat) : (List Stmt) → (List Int) → Int → Option ((List Int) × Int) := (FS_f0 n).1
def F_n0 (n : Nat) : Stmt → (List Int) → Int → Option ((List Int) × Int) := (FS_f0 n).2.1
def F_q0 (n : Nat) : Stmt → (List Int) → Int → Option ((List Int) × Int) := (FS_f0 n).2.2
def F_ct0 (n : Nat) (b0_1_ : List Int) (b0_2_ : Int) : Option ((List UInt8) × (List Int)) :=
 ass (bytesOk b0_1_ && decide (b0_1_.length ≤ 9223372036854775807)) <| some (toB b0_1_, b0_1_)
def F_bg0_j1 (n : Nat) (p : Proc) (v19 : List (List UInt8)) : Option (List UInt8) :=
 Option.bind (F_ec0 n v19 ([44, 32] : List UInt8)) fun r20 =>
 Option.bind (F_j0 n ([([112, 114, 111, 99, 32] : List UInt8), p.Name, ([40] : List UInt8), r20, ([41, 32, 123] : List UInt8)] : List (List UInt8)) ([] : List Int) 0) fun r21 =>
 Option.bind (F_f0 n p.Body r21 0) fun r22 =>
 Option.bind (F_j0 n ([([125] : List UInt8)] : List (List UInt8)) r22.1 r22.2) fun r23 =>
 Option.bind (F_ct0 n r23 r22.2) fun r24 =>
 some r24.1
def F_bg0_b2 (n : Nat) (p : Proc) (k2 : Int → (List (List UInt8)) → Option (List UInt8)) (v10 : Int) (v11 : List (List UInt8)) : Option (List UInt8) :=
 bif (decide (v10 < ((p.Params.length : Nat) : Int))) then (
 ass (inB v10 p.Params.length) <|
 ass (strRoom (((p.Params.getD (v10).toNat default).Name).length + ([58, 32] : List UInt8).length)) <|
 Option.bind (F_dd0 n ((p.Params.getD (v10).toNat default).Type_)) fun r14 =>
 ass (strRoom ((((p.Params.getD (v10).toNat default).Name) ++ ([58, 32] : List UInt8)).length + r14.length)) <|
 ass (room (v11.length + ([((((p.Params.getD (v10).toNat default).Name) ++ ([58, 32] : List UInt8)) ++ r14)] : List (List UInt8)).length) 16) <|
 k2 (IntKind.i64.wrap (v10 + 1)) (v11 ++ ([((((p.Params.getD (v10).toNat default).Name) ++ ([58, 32] : List UInt8)) ++ r14)] : List (List UInt8))))
 else (
 F_bg0_j1 n p v11)
def F_bg0_l2 (n : Nat) (p : Proc) : Nat → Int → (List (List UInt8)) → Option (List UInt8)
 | 0 => fun _ _ => none
 | m + 1 => F_bg0_b2 n p (F_bg0_l2 n p m)
def F_bg0 (n : Nat) (p : Proc) : Option (List UInt8) :=
 Option.bind (F_bw0 n p) fun r1 =>
 bif (!decide (r1 = 0)) then (
 some ([] : List UInt8))
 else (
 F_bg0_l2 n p n 0 ([] : List (List UInt8)))
def B_z0 (n : Nat) (f_z0 : Expr → Expr → Option Bool) (f_o0 : (List Expr) → (List Expr) → Option Bool) (a : Expr) (b : Expr) : Option Bool :=
 Option.bind (bif (bif (bif (decide (a.Op = b.Op)) then (decide (a.N = b.N)) else false) then (decide (a.S = b.S)) else false) then f_o0 a.Args b.Args else some default) fun r1 =>
 some (bif (bif (bif (decide (a.Op = b.Op)) then (decide (a.N = b.N)) else false) then (decide (a.S = b.S)) else false) then r1 else false)
def F_o0_j1 (n : Nat) (f_z0 : Expr → Expr → Option Bool) (f_o0 : (List Expr) → (List Expr) → Option Bool) : Option Bool :=
 some true
def F_o0_b2 (n : Nat) (f_z0 : Expr → Expr → Option Bool) (f_o0 : (List Expr) → (List Expr) → Option Bool) (s2 : List Expr) (s1 : List Expr) (k2 : Int → Option Bool) (v6 : Int) : Option Bool :=
 bif (decide (v6 < ((s1.length : Nat) : Int))) then (
 ass (inB v6 s1.length) <|
 ass (inB v6 s2.length) <|
 Option.bind (f_z0 (s1.getD (v6).toNat default) (s2.getD (v6).toNat default)) fun r9 =>
 bif (!r9) then (
 some false)
 else (
 k2 (IntKind.i64.wrap (v6 + 1))))
 else (
 F_o0_j1 n f_z0 f_o0)
def F_o0_l2 (n : Nat) (f_z0 : Expr → Expr → Option Bool) (f_o0 : (List Expr) → (List Expr) → Option Bool) (s2 : List Expr) (s1 : List Expr) : Nat → Int → Option Bool
 | 0 => fun _ => none
 | m + 1 => F_o0_b2 n f_z0 f_o0 s2 s1 (F_o0_l2 n f_z0 f_o0 s2 s1 m)
def B_o0 (n : Nat) (f_z0 : Expr → Expr → Option Bool) (f_o0 : (List Expr) → (List Expr) → Option Bool) (s1 : List Expr) (s2 : List Expr) : Option Bool :=
 bif (!decide (((s1.length : Nat) : Int) = ((s2.length : Nat) : Int))) then (
 some false)
 else (
 F_o0_l2 n f_z0 f_o0 s2 s1 n 0)
def FS_z0 : Nat → (Expr → Expr → Option Bool) × ((List Expr) → (List Expr) → Option Bool)
 | 0 => (fun _ _ => none, fun _ _ => none)
 | m + 1 => (B_z0 m ((FS_z0 m).1) ((FS_z0 m).2), B_o0 m ((FS_z0 m).1) ((FS_z0 m).2))
def F_z0 (n : Nat) : Expr → Expr → Option Bool := (FS_z0 n).1
def F_o0 (n : Nat) : (List Expr) → (List Expr) → Option Bool := (FS_z0 n).2
def F_i0_j1 (n : Nat) (f_i0 : (List Stmt) → (List Stmt) → Option Bool) (f_aj0 : Stmt → Stmt → Option Bool) : Option Bool :=
 some true
def F_i0_b2 (n : Nat) (f_i0 : (List Stmt) → (List Stmt) → Option Bool) (f_aj0 : Stmt → Stmt → Option Bool) (s2 : List Stmt) (s1 : List Stmt) (k2 : Int → Option Bool) (v6 : Int) : Option Bool :=
 bif (decide (v6 < ((s1.length : Nat) : Int))) then (
 ass (inB v6 s1.length) <|
 ass (inB v6 s2.length) <|
 Option.bind (f_aj0 (⟨(s1.getD (v6).toNat default).Op, (s1.getD (v6).toNat default).Name, (s1.getD (v6).toNat default).Max, (⟨((s1.getD (v6).toNat default).A).Op, ((s1.getD (v6).toNat default).A).N, ((s1.getD (v6).toNat default).A).S, ((s1.getD (v6).toNat default).A).Args⟩ : Expr), (⟨((s1.getD (v6).toNat default).B).Op, ((s1.getD (v6).toNat default).B).N, ((s1.getD (v6).toNat default).B).S, ((s1.getD (v6).toNat default).B).Args⟩ : Expr), (s1.getD (v6).toNat default).Body, (s1.getD (v6).toNat default).Else⟩ : Stmt) (⟨(s2.getD (v6).toNat default).Op, (s2.getD (v6).toNat default).Name, (s2.getD (v6).toNat default).Max, (⟨((s2.getD (v6).toNat default).A).Op, ((s2.getD (v6).toNat default).A).N, ((s2.getD (v6).toNat default).A).S, ((s2.getD (v6).toNat default).A).Args⟩ : Expr), (⟨((s2.getD (v6).toNat default).B).Op, ((s2.getD (v6).toNat default).B).N, ((s2.getD (v6).toNat default).B).S, ((s2.getD (v6).toNat default).B).Args⟩ : Expr), (s2.getD (v6).toNat default).Body, (s2.getD (v6).toNat default).Else⟩ : Stmt)) fun r9 =>
 bif (!r9) then (
 some false)
 else (
 k2 (IntKind.i64.wrap (v6 + 1))))
 else (
 F_i0_j1 n f_i0 f_aj0)
def F_i0_l2 (n : Nat) (f_i0 : (List Stmt) → (List Stmt) → Option Bool) (f_aj0 : Stmt → Stmt → Option Bool) (s2 : List Stmt) (s1 : List Stmt) : Nat → Int → Option Bool
 | 0 => fun _ => none
 | m + 1 => F_i0_b2 n f_i0 f_aj0 s2 s1 (F_i0_l2 n f_i0 f_aj0 s2 s1 m)
def B_i0 (n : Nat) (f_i0 : (List Stmt) → (List Stmt) → Option Bool) (f_aj0 : Stmt → Stmt → Option Bool) (s1 : List Stmt) (s2 : List Stmt) : Option Bool :=
 bif (!decide (((s1.length : Nat) : Int) = ((s2.length : Nat) : Int))) then (
 some false)
 else (
 F_i0_l2 n f_i0 f_aj0 s2 s1 n 0)
def B_aj0 (n : Nat) (f_i0 : (List Stmt) → (List Stmt) → Option Bool) (f_aj0 : Stmt → Stmt → Option Bool) (a : Stmt) (b : Stmt) : Option Bool :=
 Option.bind (bif (bif (bif (decide (a.Op = b.Op)) then (decide (a.Name = b.Name)) else false) then (decide (a.Max = b.Max)) else false) then F_z0 n (⟨a.A.Op, a.A.N, a.A.S, a.A.Args⟩ : Expr) (⟨b.A.Op, b.A.N, b.A.S, b.A.Args⟩ : Expr) else some default) fun r1 =>
 Option.bind (bif (bif (bif (bif (decide (a.Op = b.Op)) then (decide (a.Name = b.Name)) else false) then (decide (a.Max = b.Max)) else false) then r1 else false) then F_z0 n (⟨a.B.Op, a.B.N, a.B.S, a.B.Args⟩ : Expr) (⟨b.B.Op, b.B.N, b.B.S, b.B.Args⟩ : Expr) else some default) fun r2 =>
 Option.bind (bif (bif (bif (bif (bif (decide (a.Op = b.Op)) then (decide (a.Name = b.Name)) else false) then (decide (a.Max = b.Max)) else false) then r1 else false) then r2 else false) then f_i0 a.Body b.Body else some default) fun r3 =>
 Option.bind (bif (bif (bif (bif (bif (bif (decide (a.Op = b.Op)) then (decide (a.Name = b.Name)) else false) then (decide (a.Max = b.Max)) else false) then r1 else false) then r2 else false) then r3 else false) then f_i0 a.Else b.Else else some default) fun r4 =>
 some (bif (bif (bif (bif (bif (bif (decide (a.Op = b.Op)) then (decide (a.Name = b.Name)) else false) then (decide (a.Max = b.Max)) else false) then r1 else false) then r2 else false) then r3 else false) then r4 else false)
def FS_i0 : Nat → ((List Stmt) → (List Stmt) → Option Bool) × (Stmt → Stmt → Option Bool)
 | 0 => (fun _ _ => none, fun _ _ => none)
 | m + 1 => (B_i0 m ((FS_i0 m).1) ((FS_i0 m).2), B_aj0 m ((FS_i0 m).1) ((FS_i0 m).2))
def F_i0 (n : Nat) : (List Stmt) → (List Stmt) → Option Bool := (FS_i0 n).1
def F_aj0 (n : Nat) : Stmt → Stmt → Option Bool := (FS_i0 n).2
def F_at0_j1 (n : Nat) : Option Bool :=
 some true
def F_at0_b2 (n : Nat) (s1 : List Param) (s2 : List Param) (k2 : Int → Option Bool) (v5 : Int) : Option Bool :=
 bif (decide (v5 < ((s1.length : Nat) : Int))) then (
 ass (inB v5 s1.length) <|
 ass (inB v5 s2.length) <|
 bif (!((decide ((s1.getD (v5).toNat default).Name = (s2.getD (v5).toNat default).Name)) && ((decide ((s1.getD (v5).toNat default).Type_ = (s2.getD (v5).toNat default).Type_)) && true))) then (
 some false)
 else (
 k2 (IntKind.i64.wrap (v5 + 1))))
 else (
 F_at0_j1 n)
def F_at0_l2 (n : Nat) (s1 : List Param) (s2 : List Param) : Nat → Int → Option Bool
 | 0 => fun _ => none
 | m + 1 => F_at0_b2 n s1 s2 (F_at0_l2 n s1 s2 m)
def F_at0 (n : Nat) (s1 : List Param) (s2 : List Param) : Option Bool :=
 bif (!decide (((s1.length : Nat) : Int) = ((s2.length : Nat) : Int))) then (
 some false)
 else (
 F_at0_l2 n s1 s2 n 0)
def F_ej0 (n : Nat) (a : Proc) (b : Proc) : Option Bool :=
 Option.bind (bif (decide (a.Name = b.Name)) then F_at0 n a.Params b.Params else some default) fun r1 =>
 Option.bind (bif (bif (decide (a.Name = b.Name)) then r1 else false) then F_i0 n a.Body b.Body else some default) fun r2 =>
 some (bif (bif (decide (a.Name = b.Name)) then r1 else false) then r2 else false)
def F_ek0 (n : Nat) (t : Token) : Option Bool :=
 bif (decide (t.Kind = 1)) then (
 Option.bind (F_cb0 n t.Text) fun r2 =>
 some (bif r2 then (decide (t.N = 0)) else false))
 else (
 bif (decide (t.Kind = 2)) then (
 Option.bind (F_ac0 n t.Text) fun r4 =>
 some (bif r4 then (decide (t.N = 0)) else false))
 else (
 bif (decide (t.Kind = 3)) then (
 some (bif (decide (t.Text = ([] : List UInt8))) then (decide (0 ≤ t.N)) else false))
 else (
 bif (decide (t.Kind = 4)) then (
 Option.bind (bif (decide (((t.Text.length : Nat) : Int) ≤ 64)) then F_bm0 n t.Text else some default) fun r7 =>
 some (bif (bif (decide (((t.Text.length : Nat) : Int) ≤ 64)) then r7 else false) then (decide (t.N = 0)) else false))
 else (
 bif (decide (t.Kind = 5)) then (
 Option.bind (bif (!(decide (t.Text = ([] : List UInt8)))) then F_bs0 n t.Text else some default) fun r9 =>
 some (bif (bif (!(decide (t.Text = ([] : List UInt8)))) then (decide (r9 = t.Text)) else false) then (decide (t.N = 0)) else false))
 else (
 some false)))))
def F_ds0 (n : Nat) (b0_1_ : List Int) : Option Int :=
 some ((b0_1_.length : Nat) : Int)
def F_ax0 (n : Nat) (s : List UInt8) (b0_1_ : List Int) : Option (Int × (List Int)) :=
 Option.bind (F_bj0 n b0_1_) fun r1 =>
 ass (room (b0_1_.length + s.length) 1) <|
 some (((s.length : Nat) : Int), (b0_1_ ++ s.map fun b => (b.toNat : Int)))
def F_ah0_j2 (n : Nat) (v36 : List Int) : Option ((List UInt8) × Int) :=
 Option.bind (F_bo0 n v36) fun r37 =>
 some (r37.1, 0)
def F_ah0_j4 (n : Nat) (k3 : (List Int) → Int → Option ((List UInt8) × Int)) (l : List Token) (v22 : Int) (v33 : List Int) : Option ((List UInt8) × Int) :=
 k3 v33 (IntKind.i64.wrap (v22 + 1))
def F_ah0_j6 (n : Nat) (k3 : (List Int) → Int → Option ((List UInt8) × Int)) (l : List Token) (v22 : Int) (v31 : List Int) : Option ((List UInt8) × Int) :=
 Option.bind (F_ds0 n v31) fun r32 =>
 bif (decide (16384 < r32)) then (
 some (([] : List UInt8), 2))
 else (
 F_ah0_j4 n k3 l v22 v31)
def F_ah0_j5 (n : Nat) (k3 : (List Int) → Int → Option ((List UInt8) × Int)) (l : List Token) (v22 : Int) (v25 : List Int) : Option ((List UInt8) × Int) :=
 bif (decide ((l.getD (v22).toNat default).Kind = 3)) then (
 Option.bind (F_eb0 n ((l.getD (v22).toNat default).N)) fun r26 =>
 Option.bind (F_ax0 n r26 v25) fun r27 =>
 F_ah0_j6 n k3 l v22 r27.2)
 else (
 bif (decide ((l.getD (v22).toNat default).Kind = 4)) then (
 Option.bind (F_av0 n ((l.getD (v22).toNat default).Text)) fun r28 =>
 Option.bind (F_ax0 n r28.1 v25) fun r29 =>
 F_ah0_j6 n k3 l v22 r29.2)
 else (
 Option.bind (F_ax0 n ((l.getD (v22).toNat default).Text) v25) fun r30 =>
 F_ah0_j6 n k3 l v22 r30.2))
def F_ah0_b3 (n : Nat) (l : List Token) (k3 : (List Int) → Int → Option ((List UInt8) × Int)) (v21 : List Int) (v22 : Int) : Option ((List UInt8) × Int) :=
 bif (decide (v22 < ((l.length : Nat) : Int))) then (
 ass (inB v22 l.length) <|
 bif (decide (0 < v22)) then (
 Option.bind (F_ak0 n 32 v21) fun r24 =>
 F_ah0_j5 n k3 l v22 r24)
 else (
 F_ah0_j5 n k3 l v22 v21))
 else (
 F_ah0_j2 n v21)
def F_ah0_l3 (n : Nat) (l : List Token) : Nat → (List Int) → Int → Option ((List UInt8) × Int)
 | 0 => fun _ _ => none
 | m + 1 => F_ah0_b3 n l (F_ah0_l3 n l m)
def F_ah0_j1 (n : Nat) (l : List Token) : Option ((List UInt8) × Int) :=
 F_ah0_l3 n l n ([] : List Int) 0
def F_ah0_b7 (n : Nat) (l : List Token) (k7 : Int → Option ((List UInt8) × Int)) (v4 : Int) : Option ((List UInt8) × Int) :=
 bif (decide (v4 < ((l.length : Nat) : Int))) then (
 ass (inB v4 l.length) <|
 Option.bind (F_ek0 n (l.getD (v4).toNat default)) fun r6 =>
 bif (!r6) then (
 some (([] : List UInt8), 1))
 else (
 k7 (IntKind.i64.wrap (v4 + 1))))
 else (
 F_ah0_j1 n l)
def F_ah0_l7 (n : Nat) (l : List Token) : Nat → Int → Option ((List UInt8) × Int)
 | 0 => fun _ => none
 | m + 1 => F_ah0_b7 n l (F_ah0_l7 n l m)
def F_ah0 (n : Nat) (l : List Token) : Option ((List UInt8) × Int) :=
 F_ah0_l7 n l n 0
def F_dy0 (n : Nat) (src : List UInt8) : Option Bool :=
 bif (decide (800 < ((src.length : Nat) : Int))) then (
 Option.bind (F_db0 n) fun r2 =>
 some r2)
 else (
 Option.bind (F_p0 n src) fun r3 =>
 Option.bind (F_am0 n src) fun r4 =>
 bif (!decide (r3.2.2 = 0)) then (
 Option.bind (bif (bif (decide (r4.2.2 = r3.2.2)) then (decide (r4.2.1 = r3.2.1)) else false) then F_db0 n else some default) fun r6 =>
 some (bif (bif (decide (r4.2.2 = r3.2.2)) then (decide (r4.2.1 = r3.2.1)) else false) then r6 else false))
 else (
 Option.bind (F_ah0 n r3.1) fun r7 =>
 bif (!decide (r7.2 = 0)) then (
 some false)
 else (
 Option.bind (F_am0 n r7.1) fun r9 =>
 Option.bind (F_ej0 n r4.1 r9.1) fun r10 =>
 bif (bif (bif (!r10) then true else (!decide (r4.2.2 = r9.2.2))) then true else (!((decide (r4.2.1 = 0)) == (decide (r9.2.1 = 0))))) then (
 some false)
 else (
 bif (!decide (r4.2.2 = 0)) then (
 Option.bind (F_db0 n) fun r13 =>
 some r13)
 else (
 Option.bind (F_bg0 n r4.1) fun r14 =>
 Option.bind (F_am0 n r14) fun r15 =>
 Option.bind (F_bw0 n r4.1) fun r16 =>
 Option.bind (bif (decide (r16 = 0)) then F_ej0 n r4.1 r15.1 else some default) fun r17 =>
 Option.bind (bif (bif (bif (decide (r16 = 0)) then r17 else false) then (decide (r15.2.2 = 0)) else false) then F_db0 n else some default) fun r18 =>
 some (bif (bif (bif (decide (r16 = 0)) then r17 else false) then (decide (r15.2.2 = 0)) else false) then r18 else false))))))
end Go.Ab.Y
