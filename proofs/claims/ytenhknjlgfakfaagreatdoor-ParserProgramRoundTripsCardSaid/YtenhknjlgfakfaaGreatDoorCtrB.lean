/- Each function does what its plain function says. Printed by a program. -/
import Derived.Test.YtenhknjlgfakfaaGreatDoorCtrA
/- Printed by gen.py. -/
namespace Go.Ab.Y
open Go Go.Ab Go.Proofs
set_option linter.unusedVariables false
set_option maxRecDepth 20000
set_option linter.unusedVariables false
theorem cB_parser_parser_stmt (n : Nat) (f_b0 : Int → PPz → Option (Pn (List Stmt) Int)) (f_i0 : Int → PPz → Option (Pn Stmt Int)) (f_n0 : Int → PPz → Option (Pn Stmt Int)) (i_b0 : ∀ (depth : Int) (b0_ : PPz) (r : Pn (List Stmt) Int), f_b0 depth b0_ = some r → saysOf Tryz.prog 89 [.ptr 0 0, .v (.int .i64 depth)] [] [[⟨.v (encL 4 enc_Token b0_.tokens), none⟩, ⟨.v (.int .i64 b0_.at_), none⟩]] (Pn.on r (fun za zb => .ret (.v (encL 13 enc_Stmt za)) (some 79)) (fun zx zb => .pan zx)) (Pn.on r (fun za zb => [[⟨.v (encL 4 enc_Token b0_.tokens), none⟩, ⟨.v (.int .i64 zb), none⟩]]) (fun zx zb => [[⟨.v (encL 4 enc_Token b0_.tokens), none⟩, ⟨.v (.int .i64 zb), none⟩]]))) (i_i0 : ∀ (depth : Int) (b0_ : PPz) (r : Pn Stmt Int), f_i0 depth b0_ = some r → saysOf Tryz.prog 134 [.ptr 0 0, .v (.int .i64 depth)] [] [[⟨.v (encL 4 enc_Token b0_.tokens), none⟩, ⟨.v (.int .i64 b0_.at_), none⟩]] (Pn.on r (fun za zb => .ret (.v (.agg [.int .i64 za.Op, .str za.Name, .int .i64 za.Max, .int .i64 za.A.Op, .int .i64 za.A.N, .str za.A.S, encL 4 enc_Expr za.A.Args, .int .i64 za.B.Op, .int .i64 za.B.N, .str za.B.S, encL 4 enc_Expr za.B.Args, encL 13 enc_Stmt za.Body, encL 13 enc_Stmt za.Else])) none) (fun zx zb => .pan zx)) (Pn.on r (fun za zb => [[⟨.v (encL 4 enc_Token b0_.tokens), none⟩, ⟨.v (.int .i64 zb), none⟩]]) (fun zx zb => [[⟨.v (encL 4 enc_Token b0_.tokens), none⟩, ⟨.v (.int .i64 zb), none⟩]]))) (i_n0 : ∀ (depth : Int) (b0_ : PPz) (r : Pn Stmt Int), f_n0 depth b0_ = some r → saysOf Tryz.prog 165 [.ptr 0 0, .v (.int .i64 depth)] [] [[⟨.v (encL 4 enc_Token b0_.tokens), none⟩, ⟨.v (.int .i64 b0_.at_), none⟩]] (Pn.on r (fun za zb => .ret (.v (.agg [.int .i64 za.Op, .str za.Name, .int .i64 za.Max, .int .i64 za.A.Op, .int .i64 za.A.N, .str za.A.S, encL 4 enc_Expr za.A.Args, .int .i64 za.B.Op, .int .i64 za.B.N, .str za.B.S, encL 4 enc_Expr za.B.Args, encL 13 enc_Stmt za.Body, encL 13 enc_Stmt za.Else])) none) (fun zx zb => .pan zx)) (Pn.on r (fun za zb => [[⟨.v (encL 4 enc_Token b0_.tokens), none⟩, ⟨.v (.int .i64 zb), none⟩]]) (fun zx zb => [[⟨.v (encL 4 enc_Token b0_.tokens), none⟩, ⟨.v (.int .i64 zb), none⟩]]))) (depth : Int) (b0_ : PPz) (r : Pn Stmt Int) (h : B_i0 n f_b0 f_i0 f_n0 depth b0_ = some r) : saysOf Tryz.prog 134 [.ptr 0 0, .v (.int .i64 depth)] [] [[⟨.v (encL 4 enc_Token b0_.tokens), none⟩, ⟨.v (.int .i64 b0_.at_), none⟩]] (Pn.on r (fun za zb => .ret (.v (.agg [.int .i64 za.Op, .str za.Name, .int .i64 za.Max, .int .i64 za.A.Op, .int .i64 za.A.N, .str za.A.S, encL 4 enc_Expr za.A.Args, .int .i64 za.B.Op, .int .i64 za.B.N, .str za.B.S, encL 4 enc_Expr za.B.Args, encL 13 enc_Stmt za.Body, encL 13 enc_Stmt za.Else])) none) (fun zx zb => .pan zx)) (Pn.on r (fun za zb => [[⟨.v (encL 4 enc_Token b0_.tokens), none⟩, ⟨.v (.int .i64 zb), none⟩]]) (fun zx zb => [[⟨.v (encL 4 enc_Token b0_.tokens), none⟩, ⟨.v (.int .i64 zb), none⟩]])) := by
 refine sw_ tt_ok Tryz.func134 rfl rfl rfl ?_
 unfold B_i0 at h
 refine AWp.seq (AWp.rg tt_ok [] (by kernel_rfl) all_nil ?_)
 refine AE.tn_ (AWp.seq (AWp.block (AWp.seq ?_)))
 obtain ⟨r1, hr1, h⟩ := bind_some h
 have pr1 := c_u0 n ([108, 101, 116] : List UInt8) b0_ _ hr1
 refine AWp.rg tt_ok [orc pr1 []] (by kernel_rfl) (all_cons pr1 all_nil) ?_
 refine AE.tn_ (AWp.cnd h (by kernel_rfl) ?_ ?_) <;> clear h <;> intro h
 ·refine AWp.seq ?_
  obtain ⟨r3, hr3, h⟩ := bind_some h
  cases r3 with
  | ret r4 r5 =>
   have pr3 := c_ab0 n 1 (⟨b0_.tokens, r1.2⟩ : PPz) _ hr3
   refine AWp.rg tt_ok [orc pr3 []] (by kernel_rfl) (all_cons pr3 all_nil) ?_
   refine AE.tn_ (AWp.seq ?_)
   obtain ⟨r7, hr7, h⟩ := bind_some h
   cases r7 with
   | ret r8 r9 =>
    have pr7 := c_m0 n ([61] : List UInt8) (⟨b0_.tokens, r5⟩ : PPz) _ hr7
    refine AWp.rg tt_ok [orc pr7 []] (by kernel_rfl) (all_cons pr7 all_nil) ?_
    refine AE.tn_ (AWp.seq ?_)
    obtain ⟨r11, hr11, h⟩ := bind_some h
    cases r11 with
    | ret r12 r13 =>
     have pr11 := c_a0 n 1 0 (⟨b0_.tokens, r9⟩ : PPz) _ hr11
     obtain ⟨r15, hr15, h⟩ := bind_some h
     cases r15 with
     | ret r16 r17 =>
      have pr15 := c_ai0 n (⟨1, r4.Text, 0, r12, (⟨0, 0, ([] : List UInt8), ([] : List Expr)⟩ : Expr), ([] : List Stmt), ([] : List Stmt)⟩ : Stmt) (⟨b0_.tokens, r13⟩ : PPz) _ hr15
      refine AWp.rg tt_ok [orc pr11 [], orc pr15 []] (by kernel_rfl) (all_cons pr15 (all_cons pr11 all_nil)) ?_
      refine AE.tn_ (AWp.ret ?_)
      obtain rfl := Option.some.inj h
      exact AE.br_ (AE.tr_ (post_ret (by kernel_rfl)))
     | pan x18 r17 =>
      have pr15 := c_ai0 n (⟨1, r4.Text, 0, r12, (⟨0, 0, ([] : List UInt8), ([] : List Expr)⟩ : Expr), ([] : List Stmt), ([] : List Stmt)⟩ : Stmt) (⟨b0_.tokens, r13⟩ : PPz) _ hr15
      refine AWp.rgP tt_ok [orc pr11 [], orc pr15 []] (x := x18) (by kernel_rfl) (all_cons pr15 (all_cons pr11 all_nil)) ?_
      obtain rfl := Option.some.inj h
      exact AE.then_pan (AE.block_pan (AE.then_pan (post_pan (by kernel_rfl))))
    | pan x14 r13 =>
     have pr11 := c_a0 n 1 0 (⟨b0_.tokens, r9⟩ : PPz) _ hr11
     refine AWp.rgP tt_ok [orc pr11 []] (x := x14) (by kernel_rfl) (all_cons pr11 all_nil) ?_
     obtain rfl := Option.some.inj h
     exact AE.then_pan (AE.block_pan (AE.then_pan (post_pan (by kernel_rfl))))
   | pan x10 r9 =>
    have pr7 := c_m0 n ([61] : List UInt8) (⟨b0_.tokens, r5⟩ : PPz) _ hr7
    refine AWp.rgP tt_ok [orc pr7 []] (x := x10) (by kernel_rfl) (all_cons pr7 all_nil) ?_
    obtain rfl := Option.some.inj h
    exact AE.then_pan (AE.block_pan (AE.then_pan (post_pan (by kernel_rfl))))
  | pan x6 r5 =>
   have pr3 := c_ab0 n 1 (⟨b0_.tokens, r1.2⟩ : PPz) _ hr3
   refine AWp.rgP tt_ok [orc pr3 []] (x := x6) (by kernel_rfl) (all_cons pr3 all_nil) ?_
   obtain rfl := Option.some.inj h
   exact AE.then_pan (AE.block_pan (AE.then_pan (post_pan (by kernel_rfl))))
 ·refine AWp.seq ?_
  obtain ⟨r19, hr19, h⟩ := bind_some h
  have pr19 := c_u0 n ([112, 117, 116] : List UInt8) (⟨b0_.tokens, r1.2⟩ : PPz) _ hr19
  refine AWp.rg tt_ok [orc pr19 []] (by kernel_rfl) (all_cons pr19 all_nil) ?_
  refine AE.tn_ (AWp.cnd h (by kernel_rfl) ?_ ?_) <;> clear h <;> intro h
  ·refine AWp.seq ?_
   obtain ⟨r21, hr21, h⟩ := bind_some h
   cases r21 with
   | ret r22 r23 =>
    have pr21 := c_a0 n 1 0 (⟨b0_.tokens, r19.2⟩ : PPz) _ hr21
    refine AWp.rg tt_ok [orc pr21 []] (by kernel_rfl) (all_cons pr21 all_nil) ?_
    refine AE.tn_ (AWp.seq ?_)
    obtain ⟨r25, hr25, h⟩ := bind_some h
    cases r25 with
    | ret r26 r27 =>
     have pr25 := c_m0 n ([61] : List UInt8) (⟨b0_.tokens, r23⟩ : PPz) _ hr25
     refine AWp.rg tt_ok [orc pr25 []] (by kernel_rfl) (all_cons pr25 all_nil) ?_
     refine AE.tn_ (AWp.seq ?_)
     obtain ⟨r29, hr29, h⟩ := bind_some h
     cases r29 with
     | ret r30 r31 =>
      have pr29 := c_a0 n 1 0 (⟨b0_.tokens, r27⟩ : PPz) _ hr29
      obtain ⟨r33, hr33, h⟩ := bind_some h
      cases r33 with
      | ret r34 r35 =>
       have pr33 := c_ai0 n (⟨3, ([] : List UInt8), 0, r22, r30, ([] : List Stmt), ([] : List Stmt)⟩ : Stmt) (⟨b0_.tokens, r31⟩ : PPz) _ hr33
       refine AWp.rgD tt_ok mo_ok [(3, [orc pr29 []]), (5, [orc pr33 []])] (by kernel_rfl) (all_cons pr33 (all_cons pr29 all_nil)) ?_
       refine AE.tn_ (AWp.ret ?_)
       obtain rfl := Option.some.inj h
       exact AE.br_ (AE.tr_ (post_ret (by kernel_rfl)))
      | pan x36 r35 =>
       have pr33 := c_ai0 n (⟨3, ([] : List UInt8), 0, r22, r30, ([] : List Stmt), ([] : List Stmt)⟩ : Stmt) (⟨b0_.tokens, r31⟩ : PPz) _ hr33
       refine AWp.rgDP tt_ok mo_ok 5 [(3, [orc pr29 []]), (5, [orc pr33 []])] (x := x36) (by kernel_rfl) (all_cons pr33 (all_cons pr29 all_nil)) (fun _ => ?_)
       obtain rfl := Option.some.inj h
       exact AE.then_pan (AE.block_pan (AE.then_pan (post_pan (by kernel_rfl))))
     | pan x32 r31 =>
      have pr29 := c_a0 n 1 0 (⟨b0_.tokens, r27⟩ : PPz) _ hr29
      refine AWp.rgDP tt_ok mo_ok 3 [(3, [orc pr29 []])] (x := x32) (by kernel_rfl) (all_cons pr29 all_nil) (fun _ => ?_)
      obtain rfl := Option.some.inj h
      exact AE.then_pan (AE.block_pan (AE.then_pan (post_pan (by kernel_rfl))))
    | pan x28 r27 =>
     have pr25 := c_m0 n ([61] : List UInt8) (⟨b0_.tokens, r23⟩ : PPz) _ hr25
     refine AWp.rgP tt_ok [orc pr25 []] (x := x28) (by kernel_rfl) (all_cons pr25 all_nil) ?_
     obtain rfl := Option.some.inj h
     exact AE.then_pan (AE.block_pan (AE.then_pan (post_pan (by kernel_rfl))))
   | pan x24 r23 =>
    have pr21 := c_a0 n 1 0 (⟨b0_.tokens, r19.2⟩ : PPz) _ hr21
    refine AWp.rgP tt_ok [orc pr21 []] (x := x24) (by kernel_rfl) (all_cons pr21 all_nil) ?_
    obtain rfl := Option.some.inj h
    exact AE.then_pan (AE.block_pan (AE.then_pan (post_pan (by kernel_rfl))))
  ·refine AWp.seq ?_
   obtain ⟨r37, hr37, h⟩ := bind_some h
   have pr37 := c_u0 n ([100, 101, 108, 101, 116, 101] : List UInt8) (⟨b0_.tokens, r19.2⟩ : PPz) _ hr37
   refine AWp.rg tt_ok [orc pr37 []] (by kernel_rfl) (all_cons pr37 all_nil) ?_
   refine AE.tn_ (AWp.cnd h (by kernel_rfl) ?_ ?_) <;> clear h <;> intro h
   ·refine AWp.seq ?_
    obtain ⟨r39, hr39, h⟩ := bind_some h
    cases r39 with
    | ret r40 r41 =>
     have pr39 := c_a0 n 1 0 (⟨b0_.tokens, r37.2⟩ : PPz) _ hr39
     obtain ⟨r43, hr43, h⟩ := bind_some h
     cases r43 with
     | ret r44 r45 =>
      have pr43 := c_ai0 n (⟨4, ([] : List UInt8), 0, r40, (⟨0, 0, ([] : List UInt8), ([] : List Expr)⟩ : Expr), ([] : List Stmt), ([] : List Stmt)⟩ : Stmt) (⟨b0_.tokens, r41⟩ : PPz) _ hr43
      refine AWp.rg tt_ok [orc pr39 [], orc pr43 []] (by kernel_rfl) (all_cons pr43 (all_cons pr39 all_nil)) ?_
      refine AE.tn_ (AWp.ret ?_)
      obtain rfl := Option.some.inj h
      exact AE.br_ (AE.tr_ (post_ret (by kernel_rfl)))
     | pan x46 r45 =>
      have pr43 := c_ai0 n (⟨4, ([] : List UInt8), 0, r40, (⟨0, 0, ([] : List UInt8), ([] : List Expr)⟩ : Expr), ([] : List Stmt), ([] : List Stmt)⟩ : Stmt) (⟨b0_.tokens, r41⟩ : PPz) _ hr43
      refine AWp.rgP tt_ok [orc pr39 [], orc pr43 []] (x := x46) (by kernel_rfl) (all_cons pr43 (all_cons pr39 all_nil)) ?_
      obtain rfl := Option.some.inj h
      exact AE.then_pan (AE.block_pan (AE.then_pan (post_pan (by kernel_rfl))))
    | pan x42 r41 =>
     have pr39 := c_a0 n 1 0 (⟨b0_.tokens, r37.2⟩ : PPz) _ hr39
     refine AWp.rgP tt_ok [orc pr39 []] (x := x42) (by kernel_rfl) (all_cons pr39 all_nil) ?_
     obtain rfl := Option.some.inj h
     exact AE.then_pan (AE.block_pan (AE.then_pan (post_pan (by kernel_rfl))))
   ·refine AWp.seq ?_
    obtain ⟨r47, hr47, h⟩ := bind_some h
    have pr47 := c_u0 n ([101, 109, 105, 116] : List UInt8) (⟨b0_.tokens, r37.2⟩ : PPz) _ hr47
    refine AWp.rg tt_ok [orc pr47 []] (by kernel_rfl) (all_cons pr47 all_nil) ?_
    refine AE.tn_ (AWp.cnd h (by kernel_rfl) ?_ ?_) <;> clear h <;> intro h
    ·refine AWp.seq ?_
     obtain ⟨r49, hr49, h⟩ := bind_some h
     cases r49 with
     | ret r50 r51 =>
      have pr49 := c_a0 n 1 0 (⟨b0_.tokens, r47.2⟩ : PPz) _ hr49
      obtain ⟨r53, hr53, h⟩ := bind_some h
      cases r53 with
      | ret r54 r55 =>
       have pr53 := c_ai0 n (⟨7, ([] : List UInt8), 0, r50, (⟨0, 0, ([] : List UInt8), ([] : List Expr)⟩ : Expr), ([] : List Stmt), ([] : List Stmt)⟩ : Stmt) (⟨b0_.tokens, r51⟩ : PPz) _ hr53
       refine AWp.rg tt_ok [orc pr49 [], orc pr53 []] (by kernel_rfl) (all_cons pr53 (all_cons pr49 all_nil)) ?_
       refine AE.tn_ (AWp.ret ?_)
       obtain rfl := Option.some.inj h
       exact AE.br_ (AE.tr_ (post_ret (by kernel_rfl)))
      | pan x56 r55 =>
       have pr53 := c_ai0 n (⟨7, ([] : List UInt8), 0, r50, (⟨0, 0, ([] : List UInt8), ([] : List Expr)⟩ : Expr), ([] : List Stmt), ([] : List Stmt)⟩ : Stmt) (⟨b0_.tokens, r51⟩ : PPz) _ hr53
       refine AWp.rgP tt_ok [orc pr49 [], orc pr53 []] (x := x56) (by kernel_rfl) (all_cons pr53 (all_cons pr49 all_nil)) ?_
       obtain rfl := Option.some.inj h
       exact AE.then_pan (AE.block_pan (AE.then_pan (post_pan (by kernel_rfl))))
     | pan x52 r51 =>
      have pr49 := c_a0 n 1 0 (⟨b0_.tokens, r47.2⟩ : PPz) _ hr49
      refine AWp.rgP tt_ok [orc pr49 []] (x := x52) (by kernel_rfl) (all_cons pr49 all_nil) ?_
      obtain rfl := Option.some.inj h
      exact AE.then_pan (AE.block_pan (AE.then_pan (post_pan (by kernel_rfl))))
    ·refine AWp.seq ?_
     obtain ⟨r57, hr57, h⟩ := bind_some h
     have pr57 := c_u0 n ([97, 98, 111, 114, 116] : List UInt8) (⟨b0_.tokens, r47.2⟩ : PPz) _ hr57
     refine AWp.rg tt_ok [orc pr57 []] (by kernel_rfl) (all_cons pr57 all_nil) ?_
     refine AE.tn_ (AWp.cnd h (by kernel_rfl) ?_ ?_) <;> clear h <;> intro h
     ·refine AWp.seq ?_
      obtain ⟨r59, hr59, h⟩ := bind_some h
      cases r59 with
      | ret r60 r61 =>
       have pr59 := c_ab0 n 3 (⟨b0_.tokens, r57.2⟩ : PPz) _ hr59
       obtain ⟨r63, hr63, h⟩ := bind_some h
       cases r63 with
       | ret r64 r65 =>
        have pr63 := c_ai0 n (⟨8, ([] : List UInt8), r60.N, (⟨0, 0, ([] : List UInt8), ([] : List Expr)⟩ : Expr), (⟨0, 0, ([] : List UInt8), ([] : List Expr)⟩ : Expr), ([] : List Stmt), ([] : List Stmt)⟩ : Stmt) (⟨b0_.tokens, r61⟩ : PPz) _ hr63
        refine AWp.rg tt_ok [orc pr59 [], orc pr63 []] (by kernel_rfl) (all_cons pr63 (all_cons pr59 all_nil)) ?_
        refine AE.tn_ (AWp.ret ?_)
        obtain rfl := Option.some.inj h
        exact AE.br_ (AE.tr_ (post_ret (by kernel_rfl)))
       | pan x66 r65 =>
        have pr63 := c_ai0 n (⟨8, ([] : List UInt8), r60.N, (⟨0, 0, ([] : List UInt8), ([] : List Expr)⟩ : Expr), (⟨0, 0, ([] : List UInt8), ([] : List Expr)⟩ : Expr), ([] : List Stmt), ([] : List Stmt)⟩ : Stmt) (⟨b0_.tokens, r61⟩ : PPz) _ hr63
        refine AWp.rgP tt_ok [orc pr59 [], orc pr63 []] (x := x66) (by kernel_rfl) (all_cons pr63 (all_cons pr59 all_nil)) ?_
        obtain rfl := Option.some.inj h
        exact AE.then_pan (AE.block_pan (AE.then_pan (post_pan (by kernel_rfl))))
      | pan x62 r61 =>
       have pr59 := c_ab0 n 3 (⟨b0_.tokens, r57.2⟩ : PPz) _ hr59
       refine AWp.rgP tt_ok [orc pr59 []] (x := x62) (by kernel_rfl) (all_cons pr59 all_nil) ?_
       obtain rfl := Option.some.inj h
       exact AE.then_pan (AE.block_pan (AE.then_pan (post_pan (by kernel_rfl))))
     ·refine AWp.seq ?_
      obtain ⟨r67, hr67, h⟩ := bind_some h
      have pr67 := c_u0 n ([105, 102] : List UInt8) (⟨b0_.tokens, r57.2⟩ : PPz) _ hr67
      refine AWp.rg tt_ok [orc pr67 []] (by kernel_rfl) (all_cons pr67 all_nil) ?_
      refine AE.tn_ (AWp.cnd h (by kernel_rfl) ?_ ?_) <;> clear h <;> intro h
      ·refine AWp.seq ?_
       obtain ⟨r69, hr69, h⟩ := bind_some h
       cases r69 with
       | ret r70 r71 =>
        have pr69 := c_a0 n 1 0 (⟨b0_.tokens, r67.2⟩ : PPz) _ hr69
        obtain ⟨r73, hr73, h⟩ := bind_some h
        cases r73 with
        | ret r74 r75 =>
         have pr73 := i_b0 depth (⟨b0_.tokens, r71⟩ : PPz) _ hr73
         refine AWp.rg tt_ok [orc pr69 [], orc pr73 [], .own] (by kernel_rfl) (all_cons pr73 (all_cons pr69 all_nil)) ?_
         refine AE.tn_ (AWp.cut (fun st' => ∃ (v82 : Int) (v83 : List Stmt), restr [4, 7] [0, 1, 2] 3 st'.env st'.H st'.nxt = some ⟨[(4, ⟨.ptr 1 0, none⟩), (7, ⟨.ptr 2 0, none⟩)], [(0, [⟨.v (encL 4 enc_Token b0_.tokens), none⟩, ⟨.v (.int .i64 v82), none⟩]), (1, [⟨.v (.int .i64 0), none⟩, ⟨.v (.str ([] : List UInt8)), none⟩, ⟨.v (.int .i64 0), none⟩, ⟨.v (.int .i64 0), none⟩, ⟨.v (.int .i64 0), none⟩, ⟨.v (.str ([] : List UInt8)), none⟩, ⟨.v (encL 4 enc_Expr ([] : List Expr)), none⟩, ⟨.v (.int .i64 0), none⟩, ⟨.v (.int .i64 0), none⟩, ⟨.v (.str ([] : List UInt8)), none⟩, ⟨.v (encL 4 enc_Expr ([] : List Expr)), none⟩, ⟨.v (encL 13 enc_Stmt ([] : List Stmt)), (some 79)⟩, ⟨.v (encL 13 enc_Stmt ([] : List Stmt)), (some 79)⟩]), (2, [⟨.v (.int .i64 5), none⟩, ⟨.v (.str ([] : List UInt8)), none⟩, ⟨.v (.int .i64 0), none⟩, ⟨.v (.int .i64 r70.Op), none⟩, ⟨.v (.int .i64 r70.N), none⟩, ⟨.v (.str r70.S), none⟩, ⟨.v (encL 4 enc_Expr r70.Args), none⟩, ⟨.v (.int .i64 0), none⟩, ⟨.v (.int .i64 0), none⟩, ⟨.v (.str ([] : List UInt8)), none⟩, ⟨.v (encL 4 enc_Expr ([] : List Expr)), none⟩, ⟨.v (encL 13 enc_Stmt r74), none⟩, ⟨.v (encL 13 enc_Stmt v83), (some 79)⟩])], 3⟩ ∧ F_i0_j1 n f_b0 f_i0 f_n0 b0_ r70 r74 v82 v83 = some r) ?_ ?_)
         ·refine AWp.seq ?_
          obtain ⟨r77, hr77, h⟩ := bind_some h
          have pr77 := c_u0 n ([101, 108, 115, 101] : List UInt8) (⟨b0_.tokens, r75⟩ : PPz) _ hr77
          refine AWp.rg tt_ok [orc pr77 []] (by kernel_rfl) (all_cons pr77 all_nil) ?_
          refine AE.tn_ (AWp.cnd h (by kernel_rfl) ?_ ?_) <;> clear h <;> intro h
          ·obtain ⟨r78, hr78, h⟩ := bind_some h
           cases r78 with
           | ret r79 r80 =>
            have pr78 := i_b0 depth (⟨b0_.tokens, r77.2⟩ : PPz) _ hr78
            refine AWp.rg tt_ok [orc pr78 []] (by kernel_rfl) (all_cons pr78 all_nil) ?_
            exact AE.tn_ ⟨r80, r79, by kernel_rfl, h⟩
           | pan x81 r80 =>
            have pr78 := i_b0 depth (⟨b0_.tokens, r77.2⟩ : PPz) _ hr78
            refine AWp.rgP tt_ok [orc pr78 []] (x := x81) (by kernel_rfl) (all_cons pr78 all_nil) ?_
            obtain rfl := Option.some.inj h
            exact AE.then_pan (AE.block_pan (AE.then_pan (post_pan (by kernel_rfl))))
          ·exact AWp.skip (AE.tn_ ⟨r77.2, ([] : List Stmt), by kernel_rfl, h⟩)
         ·clear h
          rintro st' ⟨v82, v83, hr', h⟩
          refine AWp.drop _ _ _ hr' (by kernel_rfl) ?_
          clear hr' st'
          unfold F_i0_j1 at h
          refine AWp.seq (AWp.rg tt_ok [] (by kernel_rfl) all_nil ?_)
          refine AE.tn_ (AWp.ret ?_)
          obtain rfl := Option.some.inj h
          exact AE.br_ (AE.tr_ (post_ret (by kernel_rfl)))
        | pan x76 r75 =>
         have pr73 := i_b0 depth (⟨b0_.tokens, r71⟩ : PPz) _ hr73
         refine AWp.rgP tt_ok [orc pr69 [], orc pr73 []] (x := x76) (by kernel_rfl) (all_cons pr73 (all_cons pr69 all_nil)) ?_
         obtain rfl := Option.some.inj h
         exact AE.then_pan (AE.block_pan (AE.then_pan (post_pan (by kernel_rfl))))
       | pan x72 r71 =>
        have pr69 := c_a0 n 1 0 (⟨b0_.tokens, r67.2⟩ : PPz) _ hr69
        refine AWp.rgP tt_ok [orc pr69 []] (x := x72) (by kernel_rfl) (all_cons pr69 all_nil) ?_
        obtain rfl := Option.some.inj h
        exact AE.then_pan (AE.block_pan (AE.then_pan (post_pan (by kernel_rfl))))
      ·refine AWp.seq ?_
       obtain ⟨r85, hr85, h⟩ := bind_some h
       have pr85 := c_u0 n ([102, 111, 114] : List UInt8) (⟨b0_.tokens, r67.2⟩ : PPz) _ hr85
       refine AWp.rg tt_ok [orc pr85 []] (by kernel_rfl) (all_cons pr85 all_nil) ?_
       refine AE.tn_ (AWp.cnd h (by kernel_rfl) ?_ ?_) <;> clear h <;> intro h
       ·refine AWp.seq ?_
        obtain ⟨r87, hr87, h⟩ := bind_some h
        cases r87 with
        | ret r88 r89 =>
         have pr87 := i_n0 depth (⟨b0_.tokens, r85.2⟩ : PPz) _ hr87
         refine AWp.rg tt_ok [orc pr87 []] (by kernel_rfl) (all_cons pr87 all_nil) ?_
         refine AE.tn_ (AWp.ret ?_)
         obtain rfl := Option.some.inj h
         exact AE.br_ (AE.tr_ (post_ret (by kernel_rfl)))
        | pan x90 r89 =>
         have pr87 := i_n0 depth (⟨b0_.tokens, r85.2⟩ : PPz) _ hr87
         refine AWp.rgP tt_ok [orc pr87 []] (x := x90) (by kernel_rfl) (all_cons pr87 all_nil) ?_
         obtain rfl := Option.some.inj h
         exact AE.then_pan (AE.block_pan (AE.then_pan (post_pan (by kernel_rfl))))
       ·refine AWp.skip (AE.bn_ (AE.tn_ ?_))
        refine AWp.seq ?_
        obtain ⟨r91, hr91, h⟩ := bind_some h
        cases r91 with
        | ret r92 r93 =>
         have pr91 := c_ab0 n 1 (⟨b0_.tokens, r85.2⟩ : PPz) _ hr91
         refine AWp.rg tt_ok [orc pr91 []] (by kernel_rfl) (all_cons pr91 all_nil) ?_
         refine AE.tn_ (AWp.seq ?_)
         obtain ⟨r95, hr95, h⟩ := bind_some h
         cases r95 with
         | ret r96 r97 =>
          have pr95 := c_m0 n ([61] : List UInt8) (⟨b0_.tokens, r93⟩ : PPz) _ hr95
          refine AWp.rg tt_ok [orc pr95 []] (by kernel_rfl) (all_cons pr95 all_nil) ?_
          refine AE.tn_ (AWp.seq ?_)
          obtain ⟨r99, hr99, h⟩ := bind_some h
          cases r99 with
          | ret r100 r101 =>
           have pr99 := c_a0 n 1 0 (⟨b0_.tokens, r97⟩ : PPz) _ hr99
           obtain ⟨r103, hr103, h⟩ := bind_some h
           cases r103 with
           | ret r104 r105 =>
            have pr103 := c_ai0 n (⟨2, r92.Text, 0, r100, (⟨0, 0, ([] : List UInt8), ([] : List Expr)⟩ : Expr), ([] : List Stmt), ([] : List Stmt)⟩ : Stmt) (⟨b0_.tokens, r101⟩ : PPz) _ hr103
            refine AWp.rg tt_ok [orc pr99 [], orc pr103 []] (by kernel_rfl) (all_cons pr103 (all_cons pr99 all_nil)) ?_
            refine AE.tn_ (AWp.ret ?_)
            obtain rfl := Option.some.inj h
            exact post_ret (by kernel_rfl)
           | pan x106 r105 =>
            have pr103 := c_ai0 n (⟨2, r92.Text, 0, r100, (⟨0, 0, ([] : List UInt8), ([] : List Expr)⟩ : Expr), ([] : List Stmt), ([] : List Stmt)⟩ : Stmt) (⟨b0_.tokens, r101⟩ : PPz) _ hr103
            refine AWp.rgP tt_ok [orc pr99 [], orc pr103 []] (x := x106) (by kernel_rfl) (all_cons pr103 (all_cons pr99 all_nil)) ?_
            obtain rfl := Option.some.inj h
            exact AE.then_pan (post_pan (by kernel_rfl))
          | pan x102 r101 =>
           have pr99 := c_a0 n 1 0 (⟨b0_.tokens, r97⟩ : PPz) _ hr99
           refine AWp.rgP tt_ok [orc pr99 []] (x := x102) (by kernel_rfl) (all_cons pr99 all_nil) ?_
           obtain rfl := Option.some.inj h
           exact AE.then_pan (post_pan (by kernel_rfl))
         | pan x98 r97 =>
          have pr95 := c_m0 n ([61] : List UInt8) (⟨b0_.tokens, r93⟩ : PPz) _ hr95
          refine AWp.rgP tt_ok [orc pr95 []] (x := x98) (by kernel_rfl) (all_cons pr95 all_nil) ?_
          obtain rfl := Option.some.inj h
          exact AE.then_pan (post_pan (by kernel_rfl))
        | pan x94 r93 =>
         have pr91 := c_ab0 n 1 (⟨b0_.tokens, r85.2⟩ : PPz) _ hr91
         refine AWp.rgP tt_ok [orc pr91 []] (x := x94) (by kernel_rfl) (all_cons pr91 all_nil) ?_
         obtain rfl := Option.some.inj h
         exact AE.then_pan (post_pan (by kernel_rfl))
theorem cB_parser_parser_loop (n : Nat) (f_b0 : Int → PPz → Option (Pn (List Stmt) Int)) (f_i0 : Int → PPz → Option (Pn Stmt Int)) (f_n0 : Int → PPz → Option (Pn Stmt Int)) (i_b0 : ∀ (depth : Int) (b0_ : PPz) (r : Pn (List Stmt) Int), f_b0 depth b0_ = some r → saysOf Tryz.prog 89 [.ptr 0 0, .v (.int .i64 depth)] [] [[⟨.v (encL 4 enc_Token b0_.tokens), none⟩, ⟨.v (.int .i64 b0_.at_), none⟩]] (Pn.on r (fun za zb => .ret (.v (encL 13 enc_Stmt za)) (some 79)) (fun zx zb => .pan zx)) (Pn.on r (fun za zb => [[⟨.v (encL 4 enc_Token b0_.tokens), none⟩, ⟨.v (.int .i64 zb), none⟩]]) (fun zx zb => [[⟨.v (encL 4 enc_Token b0_.tokens), none⟩, ⟨.v (.int .i64 zb), none⟩]]))) (i_i0 : ∀ (depth : Int) (b0_ : PPz) (r : Pn Stmt Int), f_i0 depth b0_ = some r → saysOf Tryz.prog 134 [.ptr 0 0, .v (.int .i64 depth)] [] [[⟨.v (encL 4 enc_Token b0_.tokens), none⟩, ⟨.v (.int .i64 b0_.at_), none⟩]] (Pn.on r (fun za zb => .ret (.v (.agg [.int .i64 za.Op, .str za.Name, .int .i64 za.Max, .int .i64 za.A.Op, .int .i64 za.A.N, .str za.A.S, encL 4 enc_Expr za.A.Args, .int .i64 za.B.Op, .int .i64 za.B.N, .str za.B.S, encL 4 enc_Expr za.B.Args, encL 13 enc_Stmt za.Body, encL 13 enc_Stmt za.Else])) none) (fun zx zb => .pan zx)) (Pn.on r (fun za zb => [[⟨.v (encL 4 enc_Token b0_.tokens), none⟩, ⟨.v (.int .i64 zb), none⟩]]) (fun zx zb => [[⟨.v (encL 4 enc_Token b0_.tokens), none⟩, ⟨.v (.int .i64 zb), none⟩]]))) (i_n0 : ∀ (depth : Int) (b0_ : PPz) (r : Pn Stmt Int), f_n0 depth b0_ = some r → saysOf Tryz.prog 165 [.ptr 0 0, .v (.int .i64 depth)] [] [[⟨.v (encL 4 enc_Token b0_.tokens), none⟩, ⟨.v (.int .i64 b0_.at_), none⟩]] (Pn.on r (fun za zb => .ret (.v (.agg [.int .i64 za.Op, .str za.Name, .int .i64 za.Max, .int .i64 za.A.Op, .int .i64 za.A.N, .str za.A.S, encL 4 enc_Expr za.A.Args, .int .i64 za.B.Op, .int .i64 za.B.N, .str za.B.S, encL 4 enc_Expr za.B.Args, encL 13 enc_Stmt za.Body, encL 13 enc_Stmt za.Else])) none) (fun zx zb => .pan zx)) (Pn.on r (fun za zb => [[⟨.v (encL 4 enc_Token b0_.tokens), none⟩, ⟨.v (.int .i64 zb), none⟩]]) (fun zx zb => [[⟨.v (encL 4 enc_Token b0_.tokens), none⟩, ⟨.v (.int .i64 zb), none⟩]]))) (depth : Int) (b0_ : PPz) (r : Pn Stmt Int) (h : B_n0 n f_b0 f_i0 f_n0 depth b0_ = some r) : saysOf Tryz.prog 165 [.ptr 0 0, .v (.int .i64 depth)] [] [[⟨.v (encL 4 enc_Token b0_.tokens), none⟩, ⟨.v (.int .i64 b0_.at_), none⟩]] (Pn.on r (fun za zb => .ret (.v (.agg [.int .i64 za.Op, .str za.Name, .int .i64 za.Max, .int .i64 za.A.Op, .int .i64 za.A.N, .str za.A.S, encL 4 enc_Expr za.A.Args, .int .i64 za.B.Op, .int .i64 za.B.N, .str za.B.S, encL 4 enc_Expr za.B.Args, encL 13 enc_Stmt za.Body, encL 13 enc_Stmt za.Else])) none) (fun zx zb => .pan zx)) (Pn.on r (fun za zb => [[⟨.v (encL 4 enc_Token b0_.tokens), none⟩, ⟨.v (.int .i64 zb), none⟩]]) (fun zx zb => [[⟨.v (encL 4 enc_Token b0_.tokens), none⟩, ⟨.v (.int .i64 zb), none⟩]])) := by
 refine sw_ tt_ok Tryz.func165 rfl rfl rfl ?_
 unfold B_n0 at h
 refine AWp.seq (AWp.rg tt_ok [] (by kernel_rfl) all_nil ?_)
 refine AE.tn_ (AWp.seq ?_)
 obtain ⟨r1, hr1, h⟩ := bind_some h
 cases r1 with
 | ret r2 r3 =>
  have pr1 := c_ab0 n 1 b0_ _ hr1
  refine AWp.rg tt_ok [orc pr1 [], .own] (by kernel_rfl) (all_cons pr1 all_nil) ?_
  refine AE.tn_ (AWp.seq ?_)
  obtain ⟨r5, hr5, h⟩ := bind_some h
  cases r5 with
  | ret r6 r7 =>
   have pr5 := c_m0 n ([61] : List UInt8) (⟨b0_.tokens, r3⟩ : PPz) _ hr5
   refine AWp.rg tt_ok [orc pr5 []] (by kernel_rfl) (all_cons pr5 all_nil) ?_
   refine AE.tn_ (AWp.seq ?_)
   obtain ⟨r9, hr9, h⟩ := bind_some h
   cases r9 with
   | ret r10 r11 =>
    have pr9 := c_a0 n 1 0 (⟨b0_.tokens, r7⟩ : PPz) _ hr9
    refine AWp.rg tt_ok [orc pr9 []] (by kernel_rfl) (all_cons pr9 all_nil) ?_
    refine AE.tn_ (AWp.seq ?_)
    obtain ⟨r13, hr13, h⟩ := bind_some h
    cases r13 with
    | ret r14 r15 =>
     have pr13 := c_m0 n ([116, 111] : List UInt8) (⟨b0_.tokens, r11⟩ : PPz) _ hr13
     refine AWp.rg tt_ok [orc pr13 []] (by kernel_rfl) (all_cons pr13 all_nil) ?_
     refine AE.tn_ (AWp.seq ?_)
     obtain ⟨r17, hr17, h⟩ := bind_some h
     cases r17 with
     | ret r18 r19 =>
      have pr17 := c_a0 n 1 0 (⟨b0_.tokens, r15⟩ : PPz) _ hr17
      refine AWp.rg tt_ok [orc pr17 []] (by kernel_rfl) (all_cons pr17 all_nil) ?_
      refine AE.tn_ (AWp.seq ?_)
      obtain ⟨r21, hr21, h⟩ := bind_some h
      cases r21 with
      | ret r22 r23 =>
       have pr21 := c_m0 n ([109, 97, 120] : List UInt8) (⟨b0_.tokens, r19⟩ : PPz) _ hr21
       refine AWp.rg tt_ok [orc pr21 []] (by kernel_rfl) (all_cons pr21 all_nil) ?_
       refine AE.tn_ (AWp.seq ?_)
       obtain ⟨r25, hr25, h⟩ := bind_some h
       cases r25 with
       | ret r26 r27 =>
        have pr25 := c_ab0 n 3 (⟨b0_.tokens, r23⟩ : PPz) _ hr25
        refine AWp.rg tt_ok [orc pr25 []] (by kernel_rfl) (all_cons pr25 all_nil) ?_
        refine AE.tn_ (AWp.seq ?_)
        obtain ⟨r29, hr29, h⟩ := bind_some h
        cases r29 with
        | ret r30 r31 =>
         have pr29 := i_b0 depth (⟨b0_.tokens, r27⟩ : PPz) _ hr29
         refine AWp.rg tt_ok [orc pr29 []] (by kernel_rfl) (all_cons pr29 all_nil) ?_
         refine AE.tn_ (AWp.seq (AWp.rg tt_ok [] (by kernel_rfl) all_nil ?_))
         refine AE.tn_ (AWp.ret ?_)
         obtain rfl := Option.some.inj h
         exact post_ret (by kernel_rfl)
        | pan x32 r31 =>
         have pr29 := i_b0 depth (⟨b0_.tokens, r27⟩ : PPz) _ hr29
         refine AWp.rgP tt_ok [orc pr29 []] (x := x32) (by kernel_rfl) (all_cons pr29 all_nil) ?_
         obtain rfl := Option.some.inj h
         exact AE.then_pan (post_pan (by kernel_rfl))
       | pan x28 r27 =>
        have pr25 := c_ab0 n 3 (⟨b0_.tokens, r23⟩ : PPz) _ hr25
        refine AWp.rgP tt_ok [orc pr25 []] (x := x28) (by kernel_rfl) (all_cons pr25 all_nil) ?_
        obtain rfl := Option.some.inj h
        exact AE.then_pan (post_pan (by kernel_rfl))
      | pan x24 r23 =>
       have pr21 := c_m0 n ([109, 97, 120] : List UInt8) (⟨b0_.tokens, r19⟩ : PPz) _ hr21
       refine AWp.rgP tt_ok [orc pr21 []] (x := x24) (by kernel_rfl) (all_cons pr21 all_nil) ?_
       obtain rfl := Option.some.inj h
       exact AE.then_pan (post_pan (by kernel_rfl))
     | pan x20 r19 =>
      have pr17 := c_a0 n 1 0 (⟨b0_.tokens, r15⟩ : PPz) _ hr17
      refine AWp.rgP tt_ok [orc pr17 []] (x := x20) (by kernel_rfl) (all_cons pr17 all_nil) ?_
      obtain rfl := Option.some.inj h
      exact AE.then_pan (post_pan (by kernel_rfl))
    | pan x16 r15 =>
     have pr13 := c_m0 n ([116, 111] : List UInt8) (⟨b0_.tokens, r11⟩ : PPz) _ hr13
     refine AWp.rgP tt_ok [orc pr13 []] (x := x16) (by kernel_rfl) (all_cons pr13 all_nil) ?_
     obtain rfl := Option.some.inj h
     exact AE.then_pan (post_pan (by kernel_rfl))
   | pan x12 r11 =>
    have pr9 := c_a0 n 1 0 (⟨b0_.tokens, r7⟩ : PPz) _ hr9
    refine AWp.rgP tt_ok [orc pr9 []] (x := x12) (by kernel_rfl) (all_cons pr9 all_nil) ?_
    obtain rfl := Option.some.inj h
    exact AE.then_pan (post_pan (by kernel_rfl))
  | pan x8 r7 =>
   have pr5 := c_m0 n ([61] : List UInt8) (⟨b0_.tokens, r3⟩ : PPz) _ hr5
   refine AWp.rgP tt_ok [orc pr5 []] (x := x8) (by kernel_rfl) (all_cons pr5 all_nil) ?_
   obtain rfl := Option.some.inj h
   exact AE.then_pan (post_pan (by kernel_rfl))
 | pan x4 r3 =>
  have pr1 := c_ab0 n 1 b0_ _ hr1
  refine AWp.rgP tt_ok [orc pr1 []] (x := x4) (by kernel_rfl) (all_cons pr1 all_nil) ?_
  obtain rfl := Option.some.inj h
  exact AE.then_pan (post_pan (by kernel_rfl))
theorem cS_b0 (n : Nat) : (∀ (depth : Int) (b0_ : PPz) (r : Pn (List Stmt) Int), F_b0 n depth b0_ = some r → saysOf Tryz.prog 89 [.ptr 0 0, .v (.int .i64 depth)] [] [[⟨.v (encL 4 enc_Token b0_.tokens), none⟩, ⟨.v (.int .i64 b0_.at_), none⟩]] (Pn.on r (fun za zb => .ret (.v (encL 13 enc_Stmt za)) (some 79)) (fun zx zb => .pan zx)) (Pn.on r (fun za zb => [[⟨.v (encL 4 enc_Token b0_.tokens), none⟩, ⟨.v (.int .i64 zb), none⟩]]) (fun zx zb => [[⟨.v (encL 4 enc_Token b0_.tokens), none⟩, ⟨.v (.int .i64 zb), none⟩]]))) ∧ (∀ (depth : Int) (b0_ : PPz) (r : Pn Stmt Int), F_i0 n depth b0_ = some r → saysOf Tryz.prog 134 [.ptr 0 0, .v (.int .i64 depth)] [] [[⟨.v (encL 4 enc_Token b0_.tokens), none⟩, ⟨.v (.int .i64 b0_.at_), none⟩]] (Pn.on r (fun za zb => .ret (.v (.agg [.int .i64 za.Op, .str za.Name, .int .i64 za.Max, .int .i64 za.A.Op, .int .i64 za.A.N, .str za.A.S, encL 4 enc_Expr za.A.Args, .int .i64 za.B.Op, .int .i64 za.B.N, .str za.B.S, encL 4 enc_Expr za.B.Args, encL 13 enc_Stmt za.Body, encL 13 enc_Stmt za.Else])) none) (fun zx zb => .pan zx)) (Pn.on r (fun za zb => [[⟨.v (encL 4 enc_Token b0_.tokens), none⟩, ⟨.v (.int .i64 zb), none⟩]]) (fun zx zb => [[⟨.v (encL 4 enc_Token b0_.tokens), none⟩, ⟨.v (.int .i64 zb), none⟩]]))) ∧ (∀ (depth : Int) (b0_ : PPz) (r : Pn Stmt Int), F_n0 n depth b0_ = some r → saysOf Tryz.prog 165 [.ptr 0 0, .v (.int .i64 depth)] [] [[⟨.v (encL 4 enc_Token b0_.tokens), none⟩, ⟨.v (.int .i64 b0_.at_), none⟩]] (Pn.on r (fun za zb => .ret (.v (.agg [.int .i64 za.Op, .str za.Name, .int .i64 za.Max, .int .i64 za.A.Op, .int .i64 za.A.N, .str za.A.S, encL 4 enc_Expr za.A.Args, .int .i64 za.B.Op, .int .i64 za.B.N, .str za.B.S, encL 4 enc_Expr za.B.Args, encL 13 enc_Stmt za.Body, encL 13 enc_Stmt za.Else])) none) (fun zx zb => .pan zx)) (Pn.on r (fun za zb => [[⟨.v (encL 4 enc_Token b0_.tokens), none⟩, ⟨.v (.int .i64 zb), none⟩]]) (fun zx zb => [[⟨.v (encL 4 enc_Token b0_.tokens), none⟩, ⟨.v (.int .i64 zb), none⟩]]))) := by
 induction n with
 | zero => exact ⟨fun depth b0_ r h => (by have h2 : (none : Option _) = some r := h; cases h2), fun depth b0_ r h => (by have h2 : (none : Option _) = some r := h; cases h2), fun depth b0_ r h => (by have h2 : (none : Option _) = some r := h; cases h2)⟩
 | succ m ih => exact ⟨fun depth b0_ r h => cB_parser_parser_block m (F_b0 m) (F_i0 m) (F_n0 m) ih.1 ih.2.1 ih.2.2 depth b0_ r h, fun depth b0_ r h => cB_parser_parser_stmt m (F_b0 m) (F_i0 m) (F_n0 m) ih.1 ih.2.1 ih.2.2 depth b0_ r h, fun depth b0_ r h => cB_parser_parser_loop m (F_b0 m) (F_i0 m) (F_n0 m) ih.1 ih.2.1 ih.2.2 depth b0_ r h⟩
theorem c_b0 (n : Nat) (depth : Int) (b0_ : PPz) (r : Pn (List Stmt) Int) (h : F_b0 n depth b0_ = some r) : saysOf Tryz.prog 89 [.ptr 0 0, .v (.int .i64 depth)] [] [[⟨.v (encL 4 enc_Token b0_.tokens), none⟩, ⟨.v (.int .i64 b0_.at_), none⟩]] (Pn.on r (fun za zb => .ret (.v (encL 13 enc_Stmt za)) (some 79)) (fun zx zb => .pan zx)) (Pn.on r (fun za zb => [[⟨.v (encL 4 enc_Token b0_.tokens), none⟩, ⟨.v (.int .i64 zb), none⟩]]) (fun zx zb => [[⟨.v (encL 4 enc_Token b0_.tokens), none⟩, ⟨.v (.int .i64 zb), none⟩]])) := (cS_b0 n).1 depth b0_ r h
theorem c_am0 (n : Nat) (b0_ : PPz) (r : Pn Param Int) (h : F_am0 n b0_ = some r) : saysOf Tryz.prog 88 [.ptr 0 0] [] [[⟨.v (encL 4 enc_Token b0_.tokens), none⟩, ⟨.v (.int .i64 b0_.at_), none⟩]] (Pn.on r (fun za zb => .ret (.v (.agg [.str za.Name, .int .i64 za.Type_])) none) (fun zx zb => .pan zx)) (Pn.on r (fun za zb => [[⟨.v (encL 4 enc_Token b0_.tokens), none⟩, ⟨.v (.int .i64 zb), none⟩]]) (fun zx zb => [[⟨.v (encL 4 enc_Token b0_.tokens), none⟩, ⟨.v (.int .i64 zb), none⟩]])) := by
 refine sw_ tt_ok Tryz.func88 rfl rfl rfl ?_
 unfold F_am0 at h
 refine AWp.seq (AWp.rg tt_ok [] (by kernel_rfl) all_nil ?_)
 refine AE.tn_ (AWp.seq ?_)
 obtain ⟨r1, hr1, h⟩ := bind_some h
 cases r1 with
 | ret r2 r3 =>
  have pr1 := c_ab0 n 1 b0_ _ hr1
  refine AWp.rg tt_ok [orc pr1 []] (by kernel_rfl) (all_cons pr1 all_nil) ?_
  refine AE.tn_ (AWp.seq ?_)
  obtain ⟨r5, hr5, h⟩ := bind_some h
  cases r5 with
  | ret r6 r7 =>
   have pr5 := c_m0 n ([58] : List UInt8) (⟨b0_.tokens, r3⟩ : PPz) _ hr5
   refine AWp.rg tt_ok [orc pr5 []] (by kernel_rfl) (all_cons pr5 all_nil) ?_
   refine AE.tn_ (AWp.cut (fun st' => ∃ (v16 : Int) (v17 : Int), restr [2, 3] [0, 1, 2] 3 st'.env st'.H st'.nxt = some ⟨[(2, ⟨.ptr 1 0, none⟩), (3, ⟨.ptr 2 0, none⟩)], [(0, [⟨.v (encL 4 enc_Token b0_.tokens), none⟩, ⟨.v (.int .i64 v16), none⟩]), (1, [⟨.v (.str ([] : List UInt8)), none⟩, ⟨.v (.int .i64 0), none⟩]), (2, [⟨.v (.str r2.Text), none⟩, ⟨.v (.int .i64 v17), none⟩])], 3⟩ ∧ F_am0_j1 n b0_ r2 v16 v17 = some r) ?_ ?_)
   ·refine AWp.block (AWp.seq ?_)
    obtain ⟨r9, hr9, h⟩ := bind_some h
    have pr9 := c_u0 n ([105, 110, 116] : List UInt8) (⟨b0_.tokens, r7⟩ : PPz) _ hr9
    refine AWp.rg tt_ok [orc pr9 []] (by kernel_rfl) (all_cons pr9 all_nil) ?_
    refine AE.tn_ (AWp.cnd h (by kernel_rfl) ?_ ?_) <;> clear h <;> intro h
    ·refine AWp.rg tt_ok [] (by kernel_rfl) all_nil ?_
     exact AE.bn_ (AE.tn_ ⟨r9.2, 1, by kernel_rfl, h⟩)
    ·refine AWp.seq ?_
     obtain ⟨r10, hr10, h⟩ := bind_some h
     have pr10 := c_u0 n ([115, 116, 114] : List UInt8) (⟨b0_.tokens, r9.2⟩ : PPz) _ hr10
     refine AWp.rg tt_ok [orc pr10 []] (by kernel_rfl) (all_cons pr10 all_nil) ?_
     refine AE.tn_ (AWp.cnd h (by kernel_rfl) ?_ ?_) <;> clear h <;> intro h
     ·refine AWp.rg tt_ok [] (by kernel_rfl) all_nil ?_
      exact AE.bn_ (AE.tn_ ⟨r10.2, 2, by kernel_rfl, h⟩)
     ·refine AWp.seq ?_
      obtain ⟨r11, hr11, h⟩ := bind_some h
      have pr11 := c_u0 n ([98, 111, 111, 108] : List UInt8) (⟨b0_.tokens, r10.2⟩ : PPz) _ hr11
      refine AWp.rg tt_ok [orc pr11 []] (by kernel_rfl) (all_cons pr11 all_nil) ?_
      refine AE.tn_ (AWp.cnd h (by kernel_rfl) ?_ ?_) <;> clear h <;> intro h
      ·refine AWp.rg tt_ok [] (by kernel_rfl) all_nil ?_
       exact AE.bn_ (AE.tn_ ⟨r11.2, 3, by kernel_rfl, h⟩)
      ·obtain ⟨r12, hr12, h⟩ := bind_some h
       cases r12 with
       | ret r13 r14 =>
        have pr12 := c_w0 n 5 (⟨b0_.tokens, r11.2⟩ : PPz) _ hr12
        refine AWp.rg tt_ok [orn pr12 []] (by kernel_rfl) (all_cons pr12 all_nil) ?_
        exact AE.bn_ (AE.tn_ ⟨r11.2, 0, by kernel_rfl, h⟩)
       | pan x15 r14 =>
        have pr12 := c_w0 n 5 (⟨b0_.tokens, r11.2⟩ : PPz) _ hr12
        refine AWp.rgP tt_ok [orn pr12 []] (x := x15) (by kernel_rfl) (all_cons pr12 all_nil) ?_
        obtain rfl := Option.some.inj h
        exact AE.block_pan (AE.then_pan (post_pan (by kernel_rfl)))
   ·clear h
    rintro st' ⟨v16, v17, hr', h⟩
    refine AWp.drop _ _ _ hr' (by kernel_rfl) ?_
    clear hr' st'
    unfold F_am0_j1 at h
    refine AWp.seq (AWp.rg tt_ok [] (by kernel_rfl) all_nil ?_)
    refine AE.tn_ (AWp.ret ?_)
    obtain rfl := Option.some.inj h
    exact post_ret (by kernel_rfl)
  | pan x8 r7 =>
   have pr5 := c_m0 n ([58] : List UInt8) (⟨b0_.tokens, r3⟩ : PPz) _ hr5
   refine AWp.rgP tt_ok [orc pr5 []] (x := x8) (by kernel_rfl) (all_cons pr5 all_nil) ?_
   obtain rfl := Option.some.inj h
   exact AE.then_pan (post_pan (by kernel_rfl))
 | pan x4 r3 =>
  have pr1 := c_ab0 n 1 b0_ _ hr1
  refine AWp.rgP tt_ok [orc pr1 []] (x := x4) (by kernel_rfl) (all_cons pr1 all_nil) ?_
  obtain rfl := Option.some.inj h
  exact AE.then_pan (post_pan (by kernel_rfl))
theorem c_y0 (n : Nat) (b0_ : PPz) (r : Pn Proc Int) (h : F_y0 n b0_ = some r) : saysOf Tryz.prog 40 [.ptr 0 0] [] [[⟨.v (encL 4 enc_Token b0_.tokens), none⟩, ⟨.v (.int .i64 b0_.at_), none⟩]] (Pn.on r (fun za zb => .ret (.v (.agg [.str za.Name, encL 2 enc_Param za.Params, encL 13 enc_Stmt za.Body])) none) (fun zx zb => .pan zx)) (Pn.on r (fun za zb => [[⟨.v (encL 4 enc_Token b0_.tokens), none⟩, ⟨.v (.int .i64 zb), none⟩]]) (fun zx zb => [[⟨.v (encL 4 enc_Token b0_.tokens), none⟩, ⟨.v (.int .i64 zb), none⟩]])) := by
 refine sw_ tt_ok Tryz.func40 rfl rfl rfl ?_
 unfold F_y0 at h
 refine AWp.seq (AWp.rg tt_ok [] (by kernel_rfl) all_nil ?_)
 refine AE.tn_ (AWp.seq ?_)
 obtain ⟨r1, hr1, h⟩ := bind_some h
 cases r1 with
 | ret r2 r3 =>
  have pr1 := c_m0 n ([112, 114, 111, 99] : List UInt8) b0_ _ hr1
  refine AWp.rg tt_ok [orc pr1 []] (by kernel_rfl) (all_cons pr1 all_nil) ?_
  refine AE.tn_ (AWp.seq ?_)
  obtain ⟨r5, hr5, h⟩ := bind_some h
  cases r5 with
  | ret r6 r7 =>
   have pr5 := c_ab0 n 1 (⟨b0_.tokens, r3⟩ : PPz) _ hr5
   refine AWp.rg tt_ok [orc pr5 [], .own] (by kernel_rfl) (all_cons pr5 all_nil) ?_
   refine AE.tn_ (AWp.seq ?_)
   obtain ⟨r9, hr9, h⟩ := bind_some h
   cases r9 with
   | ret r10 r11 =>
    have pr9 := c_m0 n ([40] : List UInt8) (⟨b0_.tokens, r7⟩ : PPz) _ hr9
    refine AWp.rg tt_ok [orc pr9 []] (by kernel_rfl) (all_cons pr9 all_nil) ?_
    refine AE.tn_ (AWp.cut (fun st' => ∃ (v43 : Int) (v44 : List Param), restr [0, 2, 3] [0, 1, 2] 3 st'.env st'.H st'.nxt = some ⟨[(0, ⟨.ptr 0 0, none⟩), (2, ⟨.ptr 1 0, none⟩), (3, ⟨.ptr 2 0, none⟩)], [(0, [⟨.v (encL 4 enc_Token b0_.tokens), none⟩, ⟨.v (.int .i64 v43), none⟩]), (1, [⟨.v (.str ([] : List UInt8)), none⟩, ⟨.v (encL 2 enc_Param ([] : List Param)), (some 68)⟩, ⟨.v (encL 13 enc_Stmt ([] : List Stmt)), (some 79)⟩]), (2, [⟨.v (.str r6.Text), none⟩, ⟨.v (encL 2 enc_Param v44), (some 68)⟩, ⟨.v (encL 13 enc_Stmt ([] : List Stmt)), (some 79)⟩])], 3⟩ ∧ F_y0_j1 n b0_ r6 v43 v44 = some r) ?_ ?_)
    ·refine AWp.seq ?_
     obtain ⟨r13, hr13, h⟩ := bind_some h
     have pr13 := c_u0 n ([41] : List UInt8) (⟨b0_.tokens, r11⟩ : PPz) _ hr13
     refine AWp.rg tt_ok [orc pr13 []] (by kernel_rfl) (all_cons pr13 all_nil) ?_
     refine AE.tn_ (AWp.cnd h (by kernel_rfl) ?_ ?_) <;> clear h <;> intro h
     ·refine AWp.seq ?_
      obtain ⟨r14, hr14, h⟩ := bind_some h
      cases r14 with
      | ret r15 r16 =>
       have pr14 := c_am0 n (⟨b0_.tokens, r13.2⟩ : PPz) _ hr14
       obtain ⟨g18, h⟩ := ass_some h
       refine AWp.rgD tt_ok mo_ok [(1, [.own]), (3, [orc pr14 []]), (4, [.val (encL 2 enc_Param ([r15] : List Param))]), (5, [.val (encL 2 enc_Param (([] : List Param) ++ ([r15] : List Param)))])] (by kernel_rfl) (all_cons (vimp_app (k := 2) (e := enc_Param) ([] : List Param) ([r15] : List Param)) (all_cons g18 (all_cons (vimp_litm (k := 2) (e := enc_Param) ([r15] : List Param)) (all_cons pr14 all_nil)))) ?_
       refine AE.tn_ (AWp.cut (fun st' => ∃ (v37 : Int) (v38 : List Param), restr [0, 2, 3] [0, 1, 2] 3 st'.env st'.H st'.nxt = some ⟨[(0, ⟨.ptr 0 0, none⟩), (2, ⟨.ptr 1 0, none⟩), (3, ⟨.ptr 2 0, none⟩)], [(0, [⟨.v (encL 4 enc_Token b0_.tokens), none⟩, ⟨.v (.int .i64 v37), none⟩]), (1, [⟨.v (.str ([] : List UInt8)), none⟩, ⟨.v (encL 2 enc_Param ([] : List Param)), (some 68)⟩, ⟨.v (encL 13 enc_Stmt ([] : List Stmt)), (some 79)⟩]), (2, [⟨.v (.str r6.Text), none⟩, ⟨.v (encL 2 enc_Param v38), (some 68)⟩, ⟨.v (encL 13 enc_Stmt ([] : List Stmt)), (some 79)⟩])], 3⟩ ∧ F_y0_j2 n b0_ r6 v37 v38 = some r) ?_ ?_)
       ·refine AWp.block (AWp.loop (σ := Int × (List Param)) (fun zm zs zst => restr [0, 2, 3] [0, 1, 2] 3 zst.env zst.H zst.nxt = some ⟨[(0, ⟨.ptr 0 0, none⟩), (2, ⟨.ptr 1 0, none⟩), (3, ⟨.ptr 2 0, none⟩)], [(0, [⟨.v (encL 4 enc_Token b0_.tokens), none⟩, ⟨.v (.int .i64 zs.1), none⟩]), (1, [⟨.v (.str ([] : List UInt8)), none⟩, ⟨.v (encL 2 enc_Param ([] : List Param)), (some 68)⟩, ⟨.v (encL 13 enc_Stmt ([] : List Stmt)), (some 79)⟩]), (2, [⟨.v (.str r6.Text), none⟩, ⟨.v (encL 2 enc_Param zs.2), (some 68)⟩, ⟨.v (encL 13 enc_Stmt ([] : List Stmt)), (some 79)⟩])], 3⟩ ∧ F_y0_l3 n b0_ r6 zm zs.1 zs.2 = some r) ?_ (n := n) (s := (r16, (([] : List Param) ++ ([r15] : List Param)))) ⟨by kernel_rfl, h⟩)
        clear h
        rintro m3 ⟨v27, v28⟩ st' ⟨hr', h⟩
        cases m3 with
        | zero =>
         have h2 : (none : Option _) = some r := h
         cases h2
        | succ m3 =>
         refine ⟨m3, rfl, AWp.drop _ _ _ hr' (by kernel_rfl) ?_⟩
         clear hr' st'
         replace h : F_y0_b3 n b0_ r6 (F_y0_l3 n b0_ r6 m3) v27 v28 = some r := h
         unfold F_y0_b3 at h
         refine AWp.seq (AWp.seq ?_)
         obtain ⟨r29, hr29, h⟩ := bind_some h
         have pr29 := c_u0 n ([44] : List UInt8) (⟨b0_.tokens, v27⟩ : PPz) _ hr29
         refine AWp.rg tt_ok [orc pr29 []] (by kernel_rfl) (all_cons pr29 all_nil) ?_
         refine AE.tn_ (AWp.cnd h (by kernel_rfl) ?_ ?_) <;> clear h <;> intro h
         ·refine AWp.skip (AE.tn_ (AWp.block ?_))
          obtain ⟨r30, hr30, h⟩ := bind_some h
          cases r30 with
          | ret r31 r32 =>
           have pr30 := c_am0 n (⟨b0_.tokens, r29.2⟩ : PPz) _ hr30
           obtain ⟨g34, h⟩ := ass_some h
           refine AWp.rgD tt_ok mo_ok [(1, [.own]), (3, [orc pr30 []]), (4, [.val (encL 2 enc_Param ([r31] : List Param))]), (5, [.val (encL 2 enc_Param (v28 ++ ([r31] : List Param)))])] (by kernel_rfl) (all_cons (vimp_app (k := 2) (e := enc_Param) v28 ([r31] : List Param)) (all_cons g34 (all_cons (vimp_litm (k := 2) (e := enc_Param) ([r31] : List Param)) (all_cons pr30 all_nil)))) ?_
           exact AE.bn_ (AE.tn_ ⟨(r32, (v28 ++ ([r31] : List Param))), by kernel_rfl, h⟩)
          | pan x33 r32 =>
           have pr30 := c_am0 n (⟨b0_.tokens, r29.2⟩ : PPz) _ hr30
           refine AWp.rgDP tt_ok mo_ok 3 [(3, [orc pr30 []])] (x := x33) (by kernel_rfl) (all_cons pr30 all_nil) (fun _ => ?_)
           obtain rfl := Option.some.inj h
           exact AE.block_pan (AE.then_pan (AE.block_pan (AE.then_pan (AE.then_pan (post_pan (by kernel_rfl))))))
         ·refine AWp.exit ?_
          exact AE.tx_ (AE.tx_ (AE.block_hit (AE.tn_ ⟨r29.2, v28, by kernel_rfl, h⟩)))
       ·clear h
        rintro st' ⟨v37, v38, hr', h⟩
        refine AWp.drop _ _ _ hr' (by kernel_rfl) ?_
        clear hr' st'
        unfold F_y0_j2 at h
        obtain ⟨r39, hr39, h⟩ := bind_some h
        cases r39 with
        | ret r40 r41 =>
         have pr39 := c_m0 n ([41] : List UInt8) (⟨b0_.tokens, v37⟩ : PPz) _ hr39
         refine AWp.rg tt_ok [orc pr39 []] (by kernel_rfl) (all_cons pr39 all_nil) ?_
         exact AE.tn_ ⟨r41, v38, by kernel_rfl, h⟩
        | pan x42 r41 =>
         have pr39 := c_m0 n ([41] : List UInt8) (⟨b0_.tokens, v37⟩ : PPz) _ hr39
         refine AWp.rgP tt_ok [orc pr39 []] (x := x42) (by kernel_rfl) (all_cons pr39 all_nil) ?_
         obtain rfl := Option.some.inj h
         exact AE.then_pan (post_pan (by kernel_rfl))
      | pan x17 r16 =>
       have pr14 := c_am0 n (⟨b0_.tokens, r13.2⟩ : PPz) _ hr14
       refine AWp.rgDP tt_ok mo_ok 3 [(3, [orc pr14 []])] (x := x17) (by kernel_rfl) (all_cons pr14 all_nil) (fun _ => ?_)
       obtain rfl := Option.some.inj h
       exact AE.then_pan (AE.then_pan (post_pan (by kernel_rfl)))
     ·exact AWp.skip (AE.tn_ ⟨r13.2, ([] : List Param), by kernel_rfl, h⟩)
    ·clear h
     rintro st' ⟨v43, v44, hr', h⟩
     refine AWp.drop _ _ _ hr' (by kernel_rfl) ?_
     clear hr' st'
     unfold F_y0_j1 at h
     refine AWp.seq ?_
     obtain ⟨r45, hr45, h⟩ := bind_some h
     cases r45 with
     | ret r46 r47 =>
      have pr45 := c_b0 n 0 (⟨b0_.tokens, v43⟩ : PPz) _ hr45
      refine AWp.rg tt_ok [orc pr45 []] (by kernel_rfl) (all_cons pr45 all_nil) ?_
      refine AE.tn_ (AWp.seq (AWp.rg tt_ok [] (by kernel_rfl) all_nil ?_))
      refine AE.tn_ (AWp.ret ?_)
      obtain rfl := Option.some.inj h
      exact post_ret (by kernel_rfl)
     | pan x48 r47 =>
      have pr45 := c_b0 n 0 (⟨b0_.tokens, v43⟩ : PPz) _ hr45
      refine AWp.rgP tt_ok [orc pr45 []] (x := x48) (by kernel_rfl) (all_cons pr45 all_nil) ?_
      obtain rfl := Option.some.inj h
      exact AE.then_pan (post_pan (by kernel_rfl))
   | pan x12 r11 =>
    have pr9 := c_m0 n ([40] : List UInt8) (⟨b0_.tokens, r7⟩ : PPz) _ hr9
    refine AWp.rgP tt_ok [orc pr9 []] (x := x12) (by kernel_rfl) (all_cons pr9 all_nil) ?_
    obtain rfl := Option.some.inj h
    exact AE.then_pan (post_pan (by kernel_rfl))
  | pan x8 r7 =>
   have pr5 := c_ab0 n 1 (⟨b0_.tokens, r3⟩ : PPz) _ hr5
   refine AWp.rgP tt_ok [orc pr5 []] (x := x8) (by kernel_rfl) (all_cons pr5 all_nil) ?_
   obtain rfl := Option.some.inj h
   exact AE.then_pan (post_pan (by kernel_rfl))
 | pan x4 r3 =>
  have pr1 := c_m0 n ([112, 114, 111, 99] : List UInt8) b0_ _ hr1
  refine AWp.rgP tt_ok [orc pr1 []] (x := x4) (by kernel_rfl) (all_cons pr1 all_nil) ?_
  obtain rfl := Option.some.inj h
  exact AE.then_pan (post_pan (by kernel_rfl))
theorem c_du0 (n : Nat) (b0_ : PPz) (b1_ : Proc) (r : Pn Unit (Int × (List UInt8) × (List Param) × (List Stmt))) (h : F_du0 n b0_ b1_ = some r) : saysOf Tryz.prog 39 [.ptr 0 0, .ptr 1 0] [] [[⟨.v (encL 4 enc_Token b0_.tokens), none⟩, ⟨.v (.int .i64 b0_.at_), none⟩], [⟨.v (.str b1_.Name), none⟩, ⟨.v (encL 2 enc_Param b1_.Params), (some 68)⟩, ⟨.v (encL 13 enc_Stmt b1_.Body), (some 79)⟩]] (Pn.on r (fun za zb => .ret (.tup []) none) (fun zx zb => .pan zx)) (Pn.on r (fun za zb => [[⟨.v (encL 4 enc_Token b0_.tokens), none⟩, ⟨.v (.int .i64 zb.1), none⟩], [⟨.v (.str zb.2.1), none⟩, ⟨.v (encL 2 enc_Param zb.2.2.1), none⟩, ⟨.v (encL 13 enc_Stmt zb.2.2.2), none⟩]]) (fun zx zb => [[⟨.v (encL 4 enc_Token b0_.tokens), none⟩, ⟨.v (.int .i64 zb.1), none⟩], [⟨.v (.str zb.2.1), none⟩, ⟨.v (encL 2 enc_Param zb.2.2.1), none⟩, ⟨.v (encL 13 enc_Stmt zb.2.2.2), none⟩]])) := by
 refine sw_ tt_ok Tryz.func39 rfl rfl rfl ?_
 unfold F_du0 at h
 obtain ⟨r1, hr1, h⟩ := bind_some h
 cases r1 with
 | ret r2 r3 =>
  have pr1 := c_y0 n b0_ _ hr1
  refine AWp.rg tt_ok [orc pr1 []] (by kernel_rfl) (all_cons pr1 all_nil) ?_
  obtain rfl := Option.some.inj h
  exact post_normal (by kernel_rfl)
 | pan x4 r3 =>
  have pr1 := c_y0 n b0_ _ hr1
  refine AWp.rgP tt_ok [orc pr1 []] (x := x4) (by kernel_rfl) (all_cons pr1 all_nil) ?_
  obtain rfl := Option.some.inj h
  exact post_pan (by kernel_rfl)
theorem d0_cj0 (a b : Int) : DCalls Tryz.prog 72 [.ptr 0 0, .ptr 1 0] [[⟨.v (.int .i64 a), none⟩], [⟨.v (.int .i64 b), none⟩]] none (fun H' => H' = [[⟨.v (.int .i64 a), none⟩], [⟨.v (.int .i64 b), none⟩]]) := by
 refine DCalls.of_recover tt_ok Tryz.func72 rfl rfl rfl rfl rfl rfl rfl rfl rfl rfl (by kernel_rfl) (by kernel_rfl) (by kernel_rfl) ?_
 refine AWp.seq (AWp.rg tt_ok [] (by kernel_rfl) all_nil ?_)
 refine AE.tn_ (AWp.cndF (by kernel_rfl) ?_)
 exact AWp.skip (post_normal (by kernel_rfl))
theorem d1_cj0 (a b l c : Int) : DCalls Tryz.prog 72 [.ptr 0 0, .ptr 1 0] [[⟨.v (.int .i64 a), none⟩], [⟨.v (.int .i64 b), none⟩]] (some (.iface 114 (.agg [.int .i64 l, .int .i64 c]))) (fun H' => H' = [[⟨.v (.int .i64 l), none⟩], [⟨.v (.int .i64 c), none⟩]]) := by
 refine DCalls.of_recover tt_ok Tryz.func72 rfl rfl rfl rfl rfl rfl rfl rfl rfl rfl (by kernel_rfl) (by kernel_rfl) (by kernel_rfl) ?_
 refine AWp.seq (AWp.rg tt_ok [] (by kernel_rfl) all_nil ?_)
 refine AE.tn_ (AWp.cndT (by kernel_rfl) ?_)
 refine AWp.seq (AWp.rg tt_ok [] (by kernel_rfl) all_nil ?_)
 refine AE.tn_ (AWp.seq (AWp.seq (AWp.rg tt_ok [] (by kernel_rfl) all_nil ?_)))
 refine AE.tn_ (AWp.cndF (by kernel_rfl) ?_)
 refine AWp.skip (AE.tn_ (AWp.rgD tt_ok mo_ok [] (by kernel_rfl) all_nil ?_))
 exact post_normal (by kernel_rfl)
theorem c_cj0 (n : Nat) (src : List UInt8) (b0_ : Proc) (r : Int × Int × (List UInt8) × (List Param) × (List Stmt)) (h : F_cj0 n src b0_ = some r) : saysOf Tryz.prog 31 [.v (.str src), .fn 39 [.ptr 0 0]] [] [[⟨.v (.str b0_.Name), none⟩, ⟨.v (encL 2 enc_Param b0_.Params), (some 68)⟩, ⟨.v (encL 13 enc_Stmt b0_.Body), (some 79)⟩]] (.ret (.tup [.v (.int .i64 r.1), .v (.int .i64 r.2.1)]) none) [[⟨.v (.str r.2.2.1), none⟩, ⟨.v (encL 2 enc_Param r.2.2.2.1), none⟩, ⟨.v (encL 13 enc_Stmt r.2.2.2.2), none⟩]] := by
 refine ACalls.of_dwp (tt := tt) Tryz.func31 rfl rfl rfl ?_
 unfold F_cj0 at h
 refine DWp.seq tt_ok ?_
 refine AWp.rg tt_ok [] (by kernel_rfl) all_nil ?_
 refine DPost_normal (DWp.seq tt_ok ?_)
 obtain ⟨r1, hr1, h⟩ := bind_some h
 have p1 := c_k0 n src _ hr1
 refine AWp.rg tt_ok [orn p1 []] (by kernel_rfl) (all_cons p1 all_nil) ?_
 refine DPost_normal (DWp.seq tt_ok ?_)
 refine AWp.seq (AWp.rg tt_ok [] (by kernel_rfl) all_nil ?_)
 refine AE.tn_ (AWp.cnd h (by kernel_rfl) ?_ ?_) <;> clear h <;> intro h
 ·refine AWp.seq (AWp.rgD tt_ok mo_ok [] (by kernel_rfl) all_nil ?_)
  refine AE.tn_ (AWp.ret ?_)
  obtain rfl := Option.some.inj h
  exact DPost_ret (by kernel_rfl)
 ·refine AWp.skip (DPost_normal ?_)
  refine DWp.defer tt_ok rfl rfl rfl rfl rfl rfl rfl rfl rfl (by kernel_rfl) (ds := [.ptr 1 0, .ptr 2 0]) (by kernel_rfl) (by kernel_rfl) Tryz.func72 rfl rfl (by kernel_rfl) ?_
  refine AWp.seq (AWp.rg tt_ok [] (by kernel_rfl) all_nil ?_)
  refine AE.tn_ (AWp.seq ?_)
  obtain ⟨r2, hr2, h⟩ := bind_some h
  have p2 := c_du0 n (⟨r1.1, 0⟩ : PPz) b0_ _ hr2
  cases r2 with
  | ret za zm =>
   refine AWp.rg tt_ok [orc p2 []] (by kernel_rfl) (all_cons p2 all_nil) ?_
   refine AE.tn_ (AWp.seq (AWp.seq (AWp.rgD tt_ok mo_ok [] (by kernel_rfl) all_nil ?_)))
   refine AE.tn_ (AWp.cnd h (by kernel_rfl) ?_ ?_) <;> clear h <;> intro h
   ·obtain ⟨r3, hr3, h⟩ := bind_some h
    have p3 := c_w0 n 5 (⟨r1.1, zm.1⟩ : PPz) _ hr3
    cases r3 with
    | ret zb zc =>
     have h2 : (none : Option _) = some r := h
     cases h2
    | pan zx zc =>
     obtain ⟨lc, hlc, h⟩ := bind_some h
     obtain rfl := Option.some.inj h
     obtain rfl := asFail_some hlc
     refine AWp.rgP tt_ok [orn p3 []] (x := .iface 114 (.agg [.int .i64 lc.1, .int .i64 lc.2])) (by kernel_rfl) (all_cons p3 all_nil) ?_
     exact AE.then_pan (LPost_pan (Fin1.of [1, 2] (d1_cj0 r1.2.1 r1.2.2 lc.1 lc.2) (by kernel_rfl)))
   ·refine AWp.skip ?_
    obtain rfl := Option.some.inj h
    refine AE.tn_ (AWp.seq (AWp.rg tt_ok [] (by kernel_rfl) all_nil ?_))
    exact AE.tn_ (AWp.ret (LPost_ret (Fin1.of [1, 2] (d0_cj0 0 0) (by kernel_rfl))))
  | pan zx zm =>
   obtain ⟨lc, hlc, h⟩ := bind_some h
   obtain rfl := Option.some.inj h
   obtain rfl := asFail_some hlc
   refine AWp.rgP tt_ok [orc p2 []] (x := .iface 114 (.agg [.int .i64 lc.1, .int .i64 lc.2])) (by kernel_rfl) (all_cons p2 all_nil) ?_
   exact AE.then_pan (LPost_pan (Fin1.of [1, 2] (d1_cj0 r1.2.1 r1.2.2 lc.1 lc.2) (by kernel_rfl)))
theorem c_ct0 (n : Nat) (src : List UInt8) (r : Proc × Int × Int) (h : F_ct0 n src = some r) : saysOf Tryz.prog 15 [.v (.str src)] [] [] (.ret (.tup [.v (.agg [.str r.1.Name, encL 2 enc_Param r.1.Params, encL 13 enc_Stmt r.1.Body]), .v (.int .i64 r.2.1), .v (.int .i64 r.2.2)]) none) [] := by
 refine sw_ tt_ok Tryz.func15 rfl rfl rfl ?_
 unfold F_ct0 at h
 refine AWp.seq (AWp.rg tt_ok [] (by kernel_rfl) all_nil ?_)
 refine AE.tn_ (AWp.seq (AWp.rg tt_ok [] (by kernel_rfl) all_nil ?_))
 refine AE.tn_ (AWp.seq ?_)
 obtain ⟨r1, hr1, h⟩ := bind_some h
 have pr1 := c_cj0 n src (⟨([] : List UInt8), ([] : List Param), ([] : List Stmt)⟩ : Proc) _ hr1
 refine AWp.rg tt_ok [orc pr1 []] (by kernel_rfl) (all_cons pr1 all_nil) ?_
 refine AE.tn_ (AWp.cut (fun st' => ∃ (v3 : Int), restr [2, 5, 6, 7] [0, 1] 2 st'.env st'.H st'.nxt = some ⟨[(2, ⟨.ptr 0 0, none⟩), (5, ⟨.ptr 1 0, none⟩), (6, ⟨.v (.int .i64 r1.1), none⟩), (7, ⟨.v (.int .i64 v3), none⟩)], [(0, [⟨.v (.str ([] : List UInt8)), none⟩, ⟨.v (encL 2 enc_Param ([] : List Param)), (some 68)⟩, ⟨.v (encL 13 enc_Stmt ([] : List Stmt)), (some 79)⟩]), (1, [⟨.v (.str r1.2.2.1), none⟩, ⟨.v (encL 2 enc_Param r1.2.2.2.1), none⟩, ⟨.v (encL 13 enc_Stmt r1.2.2.2.2), none⟩])], 2⟩ ∧ F_ct0_j1 n r1 v3 = some r) ?_ ?_)
 ·refine AWp.seq (AWp.rg tt_ok [] (by kernel_rfl) all_nil ?_)
  refine AE.tn_ (AWp.cnd h (by kernel_rfl) ?_ ?_) <;> clear h <;> intro h
  ·obtain ⟨r2, hr2, h⟩ := bind_some h
   have pr2 := c_bw0 n (⟨r1.2.2.1, r1.2.2.2.1, r1.2.2.2.2⟩ : Proc) _ hr2
   refine AWp.rg tt_ok [orn pr2 []] (by kernel_rfl) (all_cons pr2 all_nil) ?_
   exact AE.tn_ ⟨r2, by kernel_rfl, h⟩
  ·exact AWp.skip (AE.tn_ ⟨r1.2.1, by kernel_rfl, h⟩)
 ·clear h
  rintro st' ⟨v3, hr', h⟩
  refine AWp.drop _ _ _ hr' (by kernel_rfl) ?_
  clear hr' st'
  unfold F_ct0_j1 at h
  refine AWp.seq (AWp.seq (AWp.rg tt_ok [] (by kernel_rfl) all_nil ?_))
  refine AE.tn_ (AWp.cnd h (by kernel_rfl) ?_ ?_) <;> clear h <;> intro h
  ·refine AWp.seq (AWp.rg tt_ok [.own] (by kernel_rfl) all_nil ?_)
   refine AE.tn_ (AWp.ret ?_)
   obtain rfl := Option.some.inj h
   exact AE.tr_ (post_ret (by kernel_rfl))
  ·refine AWp.skip (AE.tn_ (AWp.seq (AWp.rg tt_ok [] (by kernel_rfl) all_nil ?_)))
   refine AE.tn_ (AWp.ret ?_)
   obtain rfl := Option.some.inj h
   exact post_ret (by kernel_rfl)
theorem c_ac0 (n : Nat) (l : List Proc) (r : Int) (h : F_ac0 n l = some r) : saysOf Tryz.prog 45 [.v (encL 3 enc_Proc l)] [] [] (.ret (.v (.int .i64 r)) none) [] := by
 refine sw_ tt_ok Tryz.func45 rfl rfl rfl ?_
 unfold F_ac0 at h
 refine AWp.seq (AWp.rg tt_ok [] (by kernel_rfl) all_nil ?_)
 refine AE.tn_ (AWp.seq (AWp.seq (AWp.rg tt_ok [] (by kernel_rfl) all_nil ?_)))
 refine AE.tn_ (AWp.cnd h (by kernel_rfl) ?_ ?_) <;> clear h <;> intro h
 ·refine AWp.seq (AWp.rg tt_ok [] (by kernel_rfl) all_nil ?_)
  refine AE.tn_ (AWp.ret ?_)
  obtain rfl := Option.some.inj h
  exact AE.tr_ (post_ret (by kernel_rfl))
 ·refine AWp.skip (AE.tn_ (AWp.cut (fun st' => restr [] [] 0 st'.env st'.H st'.nxt = some ⟨[], [], 0⟩ ∧ F_ac0_j1 n = some r) ?_ ?_))
  ·refine AWp.seq (AWp.rg tt_ok [] (by kernel_rfl) all_nil ?_)
   refine AE.tn_ (AWp.block (AWp.loop (σ := Int) (fun zm zs zst => restr [0, 11, 12, 13] [] 0 zst.env zst.H zst.nxt = some ⟨[(0, ⟨.v (encL 3 enc_Proc l), none⟩), (11, ⟨.v (encL 3 enc_Proc l), none⟩), (12, ⟨.v (.int .i64 ((l.length : Nat) : Int)), none⟩), (13, ⟨.v (.int .i64 zs), none⟩)], [], 0⟩ ∧ F_ac0_l2 n l zm zs = some r) ?_ (n := n) (s := 0) ⟨by kernel_rfl, h⟩))
   clear h
   rintro m2 v11 st' ⟨hr', h⟩
   cases m2 with
   | zero =>
    have h2 : (none : Option _) = some r := h
    cases h2
   | succ m2 =>
    refine ⟨m2, rfl, AWp.drop _ _ _ hr' (by kernel_rfl) ?_⟩
    clear hr' st'
    replace h : F_ac0_b2 n l (F_ac0_l2 n l m2) v11 = some r := h
    unfold F_ac0_b2 at h
    refine AWp.seq (AWp.rg tt_ok [] (by kernel_rfl) all_nil ?_)
    refine AE.tn_ (AWp.seq (AWp.cnd h (by kernel_rfl) ?_ ?_)) <;> clear h <;> intro h
    ·refine AWp.skip (AE.tn_ (AWp.cut (fun st' => restr [0, 11, 12, 13] [] 0 st'.env st'.H st'.nxt = some ⟨[(0, ⟨.v (encL 3 enc_Proc l), none⟩), (11, ⟨.v (encL 3 enc_Proc l), none⟩), (12, ⟨.v (.int .i64 ((l.length : Nat) : Int)), none⟩), (13, ⟨.v (.int .i64 v11), none⟩)], [], 0⟩ ∧ F_ac0_j3 n (F_ac0_l2 n l m2) l v11 = some r) ?_ ?_))
     ·refine AWp.block (AWp.seq ?_)
      obtain ⟨g12, h⟩ := ass_some h
      refine AWp.rg tt_ok [.raw] (by kernel_rfl) (all_cons g12 all_nil) ?_
      refine AE.tn_ (AWp.seq (AWp.seq ?_))
      obtain ⟨r13, hr13, h⟩ := bind_some h
      have pr13 := c_bw0 n (l.getD (v11).toNat default) _ hr13
      refine AWp.rg tt_ok [orn pr13 []] (by kernel_rfl) (all_cons pr13 all_nil) ?_
      refine AE.tn_ (AWp.seq (AWp.rg tt_ok [] (by kernel_rfl) all_nil ?_))
      refine AE.tn_ (AWp.cnd h (by kernel_rfl) ?_ ?_) <;> clear h <;> intro h
      ·refine AWp.seq (AWp.rg tt_ok [] (by kernel_rfl) all_nil ?_)
       refine AE.tn_ (AWp.ret ?_)
       obtain rfl := Option.some.inj h
       exact AE.tr_ (AE.br_ (AE.tr_ (AE.tr_ (AE.br_ (AE.tr_ (post_ret (by kernel_rfl)))))))
      ·refine AWp.skip (AE.tn_ (AWp.seq ?_))
       obtain ⟨g14, h⟩ := ass_some h
       refine AWp.rg tt_ok [.val (encL 3 enc_Proc (l.take (v11).toNat))] (by kernel_rfl) (all_cons (vimp_take (k := 3) (e := enc_Proc) l v11 (upB_spec g14)) (all_cons g14 all_nil)) ?_
       refine AE.tn_ (AWp.block (AWp.loop (σ := Int) (fun zm zs zst => restr [0, 4, 11, 12, 13, 25, 26, 27] [0] 1 zst.env zst.H zst.nxt = some ⟨[(0, ⟨.v (encL 3 enc_Proc l), none⟩), (4, ⟨.ptr 0 0, none⟩), (11, ⟨.v (encL 3 enc_Proc l), none⟩), (12, ⟨.v (.int .i64 ((l.length : Nat) : Int)), none⟩), (13, ⟨.v (.int .i64 v11), none⟩), (25, ⟨.v (encL 3 enc_Proc (l.take (v11).toNat)), none⟩), (26, ⟨.v (.int .i64 (((l.take (v11).toNat).length : Nat) : Int)), none⟩), (27, ⟨.v (.int .i64 zs), none⟩)], [(0, [⟨.v (.str ((l.getD (v11).toNat default).Name)), none⟩, ⟨.v (encL 2 enc_Param ((l.getD (v11).toNat default).Params)), none⟩, ⟨.v (encL 13 enc_Stmt ((l.getD (v11).toNat default).Body)), none⟩])], 1⟩ ∧ F_ac0_l4 n (F_ac0_l2 n l m2) l v11 zm zs = some r) ?_ (n := n) (s := 0) ⟨by kernel_rfl, h⟩))
       clear h
       rintro m4 v17 st' ⟨hr', h⟩
       cases m4 with
       | zero =>
        have h2 : (none : Option _) = some r := h
        cases h2
       | succ m4 =>
        refine ⟨m4, rfl, AWp.drop _ _ _ hr' (by kernel_rfl) ?_⟩
        clear hr' st'
        replace h : F_ac0_b4 n (F_ac0_l2 n l m2) l v11 (F_ac0_l4 n (F_ac0_l2 n l m2) l v11 m4) v17 = some r := h
        unfold F_ac0_b4 at h
        refine AWp.seq (AWp.rg tt_ok [] (by kernel_rfl) all_nil ?_)
        refine AE.tn_ (AWp.seq (AWp.cnd h (by kernel_rfl) ?_ ?_)) <;> clear h <;> intro h
        ·refine AWp.skip (AE.tn_ (AWp.seq (AWp.block (AWp.seq ?_))))
         obtain ⟨g18, h⟩ := ass_some h
         refine AWp.rg tt_ok [.raw] (by kernel_rfl) (all_cons g18 all_nil) ?_
         refine AE.tn_ (AWp.seq (AWp.rg tt_ok [] (by kernel_rfl) all_nil ?_))
         refine AE.tn_ (AWp.cnd h (by kernel_rfl) ?_ ?_) <;> clear h <;> intro h
         ·refine AWp.seq (AWp.rg tt_ok [] (by kernel_rfl) all_nil ?_)
          refine AE.tn_ (AWp.ret ?_)
          obtain rfl := Option.some.inj h
          exact AE.br_ (AE.tr_ (AE.tr_ (AE.br_ (AE.br_ (AE.tr_ (AE.tr_ (AE.br_ (AE.tr_ (post_ret (by kernel_rfl))))))))))
         ·refine AWp.skip (AE.bn_ (AE.tn_ ?_))
          refine AWp.rg tt_ok [] (by kernel_rfl) all_nil ?_
          exact AE.tn_ ⟨(IntKind.i64.wrap (v17 + 1)), by kernel_rfl, h⟩
        ·refine AWp.exit ?_
         exact AE.tx_ (AE.tx_ (AE.block_hit (AE.bn_ (AE.tn_ ⟨by kernel_rfl, h⟩))))
     ·clear h
      rintro st' ⟨hr', h⟩
      refine AWp.drop _ _ _ hr' (by kernel_rfl) ?_
      clear hr' st'
      unfold F_ac0_j3 at h
      refine AWp.rg tt_ok [] (by kernel_rfl) all_nil ?_
      exact AE.tn_ ⟨(IntKind.i64.wrap (v11 + 1)), by kernel_rfl, h⟩
    ·refine AWp.exit ?_
     exact AE.tx_ (AE.tx_ (AE.block_hit (AE.tn_ ⟨by kernel_rfl, h⟩)))
  ·clear h
   rintro st' ⟨hr', h⟩
   refine AWp.drop _ _ _ hr' (by kernel_rfl) ?_
   clear hr' st'
   unfold F_ac0_j1 at h
   refine AWp.seq (AWp.rg tt_ok [] (by kernel_rfl) all_nil ?_)
   refine AE.tn_ (AWp.ret ?_)
   obtain rfl := Option.some.inj h
   exact post_ret (by kernel_rfl)
theorem c_ar0 (n : Nat) (b0_ : PPz) (b1_ : List Proc) (r : Pn Unit (Int × (List Proc))) (h : F_ar0 n b0_ b1_ = some r) : saysOf Tryz.prog 44 [.ptr 0 0, .ptr 1 0] [] [[⟨.v (encL 4 enc_Token b0_.tokens), none⟩, ⟨.v (.int .i64 b0_.at_), none⟩], [⟨.v (encL 3 enc_Proc b1_), (some 34)⟩]] (Pn.on r (fun za zb => .ret (.tup []) none) (fun zx zb => .pan zx)) (Pn.on r (fun za zb => [[⟨.v (encL 4 enc_Token b0_.tokens), none⟩, ⟨.v (.int .i64 zb.1), none⟩], [⟨.v (encL 3 enc_Proc zb.2), (some 34)⟩]]) (fun zx zb => [[⟨.v (encL 4 enc_Token b0_.tokens), none⟩, ⟨.v (.int .i64 zb.1), none⟩], [⟨.v (encL 3 enc_Proc zb.2), none⟩]])) := by
 refine sw_ tt_ok Tryz.func44 rfl rfl rfl ?_
 unfold F_ar0 at h
 refine AWp.block (AWp.loop (σ := Int × (List Proc)) (fun zm zs zst => restr [0, 1] [0, 1] 2 zst.env zst.H zst.nxt = some ⟨[(0, ⟨.ptr 0 0, none⟩), (1, ⟨.ptr 1 0, none⟩)], [(0, [⟨.v (encL 4 enc_Token b0_.tokens), none⟩, ⟨.v (.int .i64 zs.1), none⟩]), (1, [⟨.v (encL 3 enc_Proc zs.2), (some 34)⟩])], 2⟩ ∧ F_ar0_l1 n b0_ zm zs.1 zs.2 = some r) ?_ (n := n) (s := (b0_.at_, b1_)) ⟨by kernel_rfl, h⟩)
 clear h
 rintro m1 ⟨v8, v9⟩ st' ⟨hr', h⟩
 cases m1 with
 | zero =>
  have h2 : (none : Option _) = some r := h
  cases h2
 | succ m1 =>
  refine ⟨m1, rfl, AWp.drop _ _ _ hr' (by kernel_rfl) ?_⟩
  clear hr' st'
  replace h : F_ar0_b1 n b0_ (F_ar0_l1 n b0_ m1) v8 v9 = some r := h
  unfold F_ar0_b1 at h
  refine AWp.seq (AWp.seq (AWp.rgD tt_ok mo_ok [] (by kernel_rfl) all_nil ?_))
  refine AE.tn_ (AWp.cnd h (by kernel_rfl) ?_ ?_) <;> clear h <;> intro h
  ·refine AWp.skip (AE.tn_ (AWp.block ?_))
   obtain ⟨r10, hr10, h⟩ := bind_some h
   cases r10 with
   | ret r11 r12 =>
    have pr10 := c_y0 n (⟨b0_.tokens, v8⟩ : PPz) _ hr10
    obtain ⟨g14, h⟩ := ass_some h
    refine AWp.rgD tt_ok mo_ok [(0, [.own]), (2, [orc pr10 []]), (3, [.val (encL 3 enc_Proc ([r11] : List Proc))]), (4, [.val (encL 3 enc_Proc (v9 ++ ([r11] : List Proc)))])] (by kernel_rfl) (all_cons (vimp_app (k := 3) (e := enc_Proc) v9 ([r11] : List Proc)) (all_cons g14 (all_cons (vimp_litm (k := 3) (e := enc_Proc) ([r11] : List Proc)) (all_cons pr10 all_nil)))) ?_
    exact AE.bn_ (AE.tn_ ⟨(r12, (v9 ++ ([r11] : List Proc))), by kernel_rfl, h⟩)
   | pan x13 r12 =>
    have pr10 := c_y0 n (⟨b0_.tokens, v8⟩ : PPz) _ hr10
    refine AWp.rgDP tt_ok mo_ok 2 [(2, [orc pr10 []])] (x := x13) (by kernel_rfl) (all_cons pr10 all_nil) (fun _ => ?_)
    obtain rfl := Option.some.inj h
    exact AE.block_pan (AE.then_pan (AE.block_pan (post_pan (by kernel_rfl))))
  ·refine AWp.exit ?_
   obtain rfl := Option.some.inj h
   exact AE.tx_ (AE.tx_ (AE.block_hit (post_normal (by kernel_rfl))))
theorem d0_ca0 (a b : Int) : DCalls Tryz.prog 72 [.ptr 0 0, .ptr 1 0] [[⟨.v (.int .i64 a), none⟩], [⟨.v (.int .i64 b), none⟩]] none (fun H' => H' = [[⟨.v (.int .i64 a), none⟩], [⟨.v (.int .i64 b), none⟩]]) := by
 refine DCalls.of_recover tt_ok Tryz.func72 rfl rfl rfl rfl rfl rfl rfl rfl rfl rfl (by kernel_rfl) (by kernel_rfl) (by kernel_rfl) ?_
 refine AWp.seq (AWp.rg tt_ok [] (by kernel_rfl) all_nil ?_)
 refine AE.tn_ (AWp.cndF (by kernel_rfl) ?_)
 exact AWp.skip (post_normal (by kernel_rfl))
theorem d1_ca0 (a b l c : Int) : DCalls Tryz.prog 72 [.ptr 0 0, .ptr 1 0] [[⟨.v (.int .i64 a), none⟩], [⟨.v (.int .i64 b), none⟩]] (some (.iface 114 (.agg [.int .i64 l, .int .i64 c]))) (fun H' => H' = [[⟨.v (.int .i64 l), none⟩], [⟨.v (.int .i64 c), none⟩]]) := by
 refine DCalls.of_recover tt_ok Tryz.func72 rfl rfl rfl rfl rfl rfl rfl rfl rfl rfl (by kernel_rfl) (by kernel_rfl) (by kernel_rfl) ?_
 refine AWp.seq (AWp.rg tt_ok [] (by kernel_rfl) all_nil ?_)
 refine AE.tn_ (AWp.cndT (by kernel_rfl) ?_)
 refine AWp.seq (AWp.rg tt_ok [] (by kernel_rfl) all_nil ?_)
 refine AE.tn_ (AWp.seq (AWp.seq (AWp.rg tt_ok [] (by kernel_rfl) all_nil ?_)))
 refine AE.tn_ (AWp.cndF (by kernel_rfl) ?_)
 refine AWp.skip (AE.tn_ (AWp.rgD tt_ok mo_ok [] (by kernel_rfl) all_nil ?_))
 exact post_normal (by kernel_rfl)
theorem c_ca0 (n : Nat) (src : List UInt8) (b0_ : List Proc) (r : Int × Int × (List Proc)) (h : F_ca0 n src b0_ = some r) : saysOf Tryz.prog 31 [.v (.str src), .fn 44 [.ptr 0 0]] [] [[⟨.v (encL 3 enc_Proc b0_), (some 34)⟩]] (.ret (.tup [.v (.int .i64 r.1), .v (.int .i64 r.2.1)]) none) [[⟨.v (encL 3 enc_Proc r.2.2), none⟩]] := by
 refine ACalls.of_dwp (tt := tt) Tryz.func31 rfl rfl rfl ?_
 unfold F_ca0 at h
 refine DWp.seq tt_ok ?_
 refine AWp.rg tt_ok [] (by kernel_rfl) all_nil ?_
 refine DPost_normal (DWp.seq tt_ok ?_)
 obtain ⟨r1, hr1, h⟩ := bind_some h
 have p1 := c_k0 n src _ hr1
 refine AWp.rg tt_ok [orn p1 []] (by kernel_rfl) (all_cons p1 all_nil) ?_
 refine DPost_normal (DWp.seq tt_ok ?_)
 refine AWp.seq (AWp.rg tt_ok [] (by kernel_rfl) all_nil ?_)
 refine AE.tn_ (AWp.cnd h (by kernel_rfl) ?_ ?_) <;> clear h <;> intro h
 ·refine AWp.seq (AWp.rgD tt_ok mo_ok [] (by kernel_rfl) all_nil ?_)
  refine AE.tn_ (AWp.ret ?_)
  obtain rfl := Option.some.inj h
  exact DPost_ret (by kernel_rfl)
 ·refine AWp.skip (DPost_normal ?_)
  refine DWp.defer tt_ok rfl rfl rfl rfl rfl rfl rfl rfl rfl (by kernel_rfl) (ds := [.ptr 1 0, .ptr 2 0]) (by kernel_rfl) (by kernel_rfl) Tryz.func72 rfl rfl (by kernel_rfl) ?_
  refine AWp.seq (AWp.rg tt_ok [] (by kernel_rfl) all_nil ?_)
  refine AE.tn_ (AWp.seq ?_)
  obtain ⟨r2, hr2, h⟩ := bind_some h
  have p2 := c_ar0 n (⟨r1.1, 0⟩ : PPz) b0_ _ hr2
  cases r2 with
  | ret za zm =>
   refine AWp.rg tt_ok [orc p2 []] (by kernel_rfl) (all_cons p2 all_nil) ?_
   refine AE.tn_ (AWp.seq (AWp.seq (AWp.rgD tt_ok mo_ok [] (by kernel_rfl) all_nil ?_)))
   refine AE.tn_ (AWp.cnd h (by kernel_rfl) ?_ ?_) <;> clear h <;> intro h
   ·obtain ⟨r3, hr3, h⟩ := bind_some h
    have p3 := c_w0 n 5 (⟨r1.1, zm.1⟩ : PPz) _ hr3
    cases r3 with
    | ret zb zc =>
     have h2 : (none : Option _) = some r := h
     cases h2
    | pan zx zc =>
     obtain ⟨lc, hlc, h⟩ := bind_some h
     obtain rfl := Option.some.inj h
     obtain rfl := asFail_some hlc
     refine AWp.rgP tt_ok [orn p3 []] (x := .iface 114 (.agg [.int .i64 lc.1, .int .i64 lc.2])) (by kernel_rfl) (all_cons p3 all_nil) ?_
     exact AE.then_pan (LPost_pan (Fin1.of [1, 2] (d1_ca0 r1.2.1 r1.2.2 lc.1 lc.2) (by kernel_rfl)))
   ·refine AWp.skip ?_
    obtain rfl := Option.some.inj h
    refine AE.tn_ (AWp.seq (AWp.rg tt_ok [] (by kernel_rfl) all_nil ?_))
    exact AE.tn_ (AWp.ret (LPost_ret (Fin1.of [1, 2] (d0_ca0 0 0) (by kernel_rfl))))
  | pan zx zm =>
   obtain ⟨lc, hlc, h⟩ := bind_some h
   obtain rfl := Option.some.inj h
   obtain rfl := asFail_some hlc
   refine AWp.rgP tt_ok [orc p2 []] (x := .iface 114 (.agg [.int .i64 lc.1, .int .i64 lc.2])) (by kernel_rfl) (all_cons p2 all_nil) ?_
   exact AE.then_pan (LPost_pan (Fin1.of [1, 2] (d1_ca0 r1.2.1 r1.2.2 lc.1 lc.2) (by kernel_rfl)))
theorem c_bm0 (n : Nat) (src : List UInt8) (r : (List Proc) × Int × Int) (h : F_bm0 n src = some r) : saysOf Tryz.prog 18 [.v (.str src)] [] [] (.ret (.tup [.v (encL 3 enc_Proc r.1), .v (.int .i64 r.2.1), .v (.int .i64 r.2.2)]) none) [] := by
 refine sw_ tt_ok Tryz.func18 rfl rfl rfl ?_
 unfold F_bm0 at h
 refine AWp.seq (AWp.rg tt_ok [] (by kernel_rfl) all_nil ?_)
 refine AE.tn_ (AWp.seq (AWp.rg tt_ok [] (by kernel_rfl) all_nil ?_))
 refine AE.tn_ (AWp.seq ?_)
 obtain ⟨r1, hr1, h⟩ := bind_some h
 have pr1 := c_ca0 n src ([] : List Proc) _ hr1
 refine AWp.rg tt_ok [orc pr1 []] (by kernel_rfl) (all_cons pr1 all_nil) ?_
 refine AE.tn_ (AWp.cut (fun st' => ∃ (v3 : Int), restr [5, 6, 7] [0] 1 st'.env st'.H st'.nxt = some ⟨[(5, ⟨.ptr 0 0, none⟩), (6, ⟨.v (.int .i64 r1.1), none⟩), (7, ⟨.v (.int .i64 v3), none⟩)], [(0, [⟨.v (encL 3 enc_Proc r1.2.2), none⟩])], 1⟩ ∧ F_bm0_j1 n r1 v3 = some r) ?_ ?_)
 ·refine AWp.seq (AWp.rg tt_ok [] (by kernel_rfl) all_nil ?_)
  refine AE.tn_ (AWp.cnd h (by kernel_rfl) ?_ ?_) <;> clear h <;> intro h
  ·obtain ⟨r2, hr2, h⟩ := bind_some h
   have pr2 := c_ac0 n r1.2.2 _ hr2
   refine AWp.rg tt_ok [orn pr2 []] (by kernel_rfl) (all_cons pr2 all_nil) ?_
   exact AE.tn_ ⟨r2, by kernel_rfl, h⟩
  ·exact AWp.skip (AE.tn_ ⟨r1.2.1, by kernel_rfl, h⟩)
 ·clear h
  rintro st' ⟨v3, hr', h⟩
  refine AWp.drop _ _ _ hr' (by kernel_rfl) ?_
  clear hr' st'
  unfold F_bm0_j1 at h
  refine AWp.seq (AWp.seq (AWp.rg tt_ok [] (by kernel_rfl) all_nil ?_))
  refine AE.tn_ (AWp.cnd h (by kernel_rfl) ?_ ?_) <;> clear h <;> intro h
  ·refine AWp.seq (AWp.rg tt_ok [] (by kernel_rfl) all_nil ?_)
   refine AE.tn_ (AWp.ret ?_)
   obtain rfl := Option.some.inj h
   exact AE.tr_ (post_ret (by kernel_rfl))
  ·refine AWp.skip (AE.tn_ (AWp.seq (AWp.rg tt_ok [] (by kernel_rfl) all_nil ?_)))
   refine AE.tn_ (AWp.ret ?_)
   obtain rfl := Option.some.inj h
   exact post_ret (by kernel_rfl)
theorem c_cd0 (n : Nat) (r : Bool) (h : F_cd0 n = some r) : saysOf Tryz.prog 11 [] [] [] (.ret (.v (.bool r)) none) [] := by
 refine sw_ tt_ok Tryz.func11 rfl rfl rfl ?_
 unfold F_cd0 at h
 refine AWp.seq (AWp.rg tt_ok [] (by kernel_rfl) all_nil ?_)
 refine AE.tn_ (AWp.seq ?_)
 obtain ⟨r1, hr1, h⟩ := bind_some h
 have pr1 := c_cc0 n ([49, 32, 43, 32, 50, 32, 42, 32, 120] : List UInt8) _ hr1
 refine AWp.rg tt_ok [orn pr1 []] (by kernel_rfl) (all_cons pr1 all_nil) ?_
 refine AE.tn_ (AWp.seq ?_)
 obtain ⟨r2, hr2, h⟩ := bind_some h
 have pr2 := c_cc0 n ([97, 32, 60, 32, 98, 32, 60, 32, 99] : List UInt8) _ hr2
 refine AWp.rg tt_ok [orn pr2 []] (by kernel_rfl) (all_cons pr2 all_nil) ?_
 refine AE.tn_ (AWp.seq ?_)
 obtain ⟨r3, hr3, h⟩ := bind_some h
 have pr3 := c_cc0 n ([49, 32, 43] : List UInt8) _ hr3
 refine AWp.rg tt_ok [orn pr3 []] (by kernel_rfl) (all_cons pr3 all_nil) ?_
 refine AE.tn_ (AWp.seq ?_)
 obtain ⟨r4, hr4, h⟩ := bind_some h
 have pr4 := c_ct0 n ([112, 114, 111, 99, 32, 112, 40, 41, 32, 123, 10, 32, 32, 101, 109, 105, 116, 32, 120, 10, 125] : List UInt8) _ hr4
 refine AWp.rg tt_ok [orn pr4 []] (by kernel_rfl) (all_cons pr4 all_nil) ?_
 refine AE.tn_ (AWp.seq ?_)
 obtain ⟨r5, hr5, h⟩ := bind_some h
 have pr5 := c_bm0 n ([] : List UInt8) _ hr5
 refine AWp.rg tt_ok [orn pr5 []] (by kernel_rfl) (all_cons pr5 all_nil) ?_
 refine AE.tn_ (AWp.seq ?_)
 obtain ⟨r6, hr6, h⟩ := bind_some h
 have pr6 := c_ct0 n ([112, 114, 111, 99, 32, 112, 40, 41, 32, 123, 32, 97, 98, 111, 114, 116, 32, 49, 48, 48, 48, 59, 32, 125] : List UInt8) _ hr6
 refine AWp.rg tt_ok [orn pr6 []] (by kernel_rfl) (all_cons pr6 all_nil) ?_
 refine AE.tn_ (AWp.seq ?_)
 obtain ⟨g7, h⟩ := ass_some h
 refine AWp.rg tt_ok [orv (enc_vimp_Expr (r1.1.Args.getD 1 default))] (by kernel_rfl) (all_cons (fun (_ : (bif (decide (r1.1.Op = 4)) then (decide (((r1.1.Args.length : Nat) : Int) = 2)) else false) = true) => (enc_vimp_Expr (r1.1.Args.getD 1 default))) (all_cons (orT g7) all_nil)) ?_
 refine AE.tn_ (AWp.ret ?_)
 obtain rfl := Option.some.inj h
 exact post_ret (by kernel_rfl)
theorem cB_ref08_EqualExpr (n : Nat) (f_r0 : Expr → Expr → Option Bool) (i_r0 : ∀ (a : Expr) (b : Expr) (r : Bool), f_r0 a b = some r → saysOf Tryz.prog 14 [.v (.agg [.int .i64 a.Op, .int .i64 a.N, .str a.S, encL 4 enc_Expr a.Args]), .v (.agg [.int .i64 b.Op, .int .i64 b.N, .str b.S, encL 4 enc_Expr b.Args])] [] [] (.ret (.v (.bool r)) none) []) (a : Expr) (b : Expr) (r : Bool) (h : B_r0 n f_r0 a b = some r) : saysOf Tryz.prog 14 [.v (.agg [.int .i64 a.Op, .int .i64 a.N, .str a.S, encL 4 enc_Expr a.Args]), .v (.agg [.int .i64 b.Op, .int .i64 b.N, .str b.S, encL 4 enc_Expr b.Args])] [] [] (.ret (.v (.bool r)) none) [] := by
 refine sw_ tt_ok Tryz.func14 rfl rfl rfl ?_
 unfold B_r0 at h
 refine AWp.seq (AWp.rg tt_ok [] (by kernel_rfl) all_nil ?_)
 refine AE.tn_ (AWp.seq (AWp.seq (AWp.rg tt_ok [] (by kernel_rfl) all_nil ?_)))
 refine AE.tn_ (AWp.cnd h (by kernel_rfl) ?_ ?_) <;> clear h <;> intro h
 ·refine AWp.seq (AWp.rg tt_ok [] (by kernel_rfl) all_nil ?_)
  refine AE.tn_ (AWp.ret ?_)
  obtain rfl := Option.some.inj h
  exact AE.tr_ (post_ret (by kernel_rfl))
 ·refine AWp.skip (AE.tn_ (AWp.cut (fun st' => restr [] [] 0 st'.env st'.H st'.nxt = some ⟨[], [], 0⟩ ∧ F_r0_j1 n f_r0 = some r) ?_ ?_))
  ·refine AWp.seq (AWp.rg tt_ok [] (by kernel_rfl) all_nil ?_)
   refine AE.tn_ (AWp.block (AWp.loop (σ := Int) (fun zm zs zst => restr [2, 3, 5] [0, 1] 2 zst.env zst.H zst.nxt = some ⟨[(2, ⟨.ptr 0 0, none⟩), (3, ⟨.ptr 1 0, none⟩), (5, ⟨.v (.int .i64 zs), none⟩)], [(0, [⟨.v (.int .i64 a.Op), none⟩, ⟨.v (.int .i64 a.N), none⟩, ⟨.v (.str a.S), none⟩, ⟨.v (encL 4 enc_Expr a.Args), none⟩]), (1, [⟨.v (.int .i64 b.Op), none⟩, ⟨.v (.int .i64 b.N), none⟩, ⟨.v (.str b.S), none⟩, ⟨.v (encL 4 enc_Expr b.Args), none⟩])], 2⟩ ∧ F_r0_l2 n f_r0 a b zm zs = some r) ?_ (n := n) (s := 0) ⟨by kernel_rfl, h⟩))
   clear h
   rintro m2 v6 st' ⟨hr', h⟩
   cases m2 with
   | zero =>
    have h2 : (none : Option _) = some r := h
    cases h2
   | succ m2 =>
    refine ⟨m2, rfl, AWp.drop _ _ _ hr' (by kernel_rfl) ?_⟩
    clear hr' st'
    replace h : F_r0_b2 n f_r0 a b (F_r0_l2 n f_r0 a b m2) v6 = some r := h
    unfold F_r0_b2 at h
    refine AWp.seq (AWp.seq (AWp.rg tt_ok [] (by kernel_rfl) all_nil ?_))
    refine AE.tn_ (AWp.cnd h (by kernel_rfl) ?_ ?_) <;> clear h <;> intro h
    ·refine AWp.skip (AE.tn_ (AWp.seq (AWp.block (AWp.seq ?_))))
     obtain ⟨g7, h⟩ := ass_some h
     obtain ⟨g8, h⟩ := ass_some h
     obtain ⟨r9, hr9, h⟩ := bind_some h
     have pr9 := i_r0 (a.Args.getD (v6).toNat default) (b.Args.getD (v6).toNat default) _ hr9
     refine AWp.rgD tt_ok mo_ok [(3, [orv (enc_vimp_Expr (a.Args.getD (v6).toNat default))]), (8, [orv (enc_vimp_Expr (b.Args.getD (v6).toNat default))]), (10, [orn pr9 []])] (by kernel_rfl) (all_cons pr9 (all_cons (enc_vimp_Expr (b.Args.getD (v6).toNat default)) (all_cons g8 (all_cons (enc_vimp_Expr (a.Args.getD (v6).toNat default)) (all_cons g7 all_nil))))) ?_
     refine AE.tn_ (AWp.cnd h (by kernel_rfl) ?_ ?_) <;> clear h <;> intro h
     ·refine AWp.seq (AWp.rg tt_ok [] (by kernel_rfl) all_nil ?_)
      refine AE.tn_ (AWp.ret ?_)
      obtain rfl := Option.some.inj h
      exact AE.br_ (AE.tr_ (AE.tr_ (AE.br_ (AE.tr_ (post_ret (by kernel_rfl))))))
     ·refine AWp.skip (AE.bn_ (AE.tn_ ?_))
      refine AWp.rg tt_ok [] (by kernel_rfl) all_nil ?_
      exact AE.tn_ ⟨(IntKind.i64.wrap (v6 + 1)), by kernel_rfl, h⟩
    ·refine AWp.exit ?_
     exact AE.tx_ (AE.tx_ (AE.block_hit (AE.tn_ ⟨by kernel_rfl, h⟩)))
  ·clear h
   rintro st' ⟨hr', h⟩
   refine AWp.drop _ _ _ hr' (by kernel_rfl) ?_
   clear hr' st'
   unfold F_r0_j1 at h
   refine AWp.seq (AWp.rg tt_ok [] (by kernel_rfl) all_nil ?_)
   refine AE.tn_ (AWp.ret ?_)
   obtain rfl := Option.some.inj h
   exact post_ret (by kernel_rfl)
theorem c_r0 (n : Nat) : ∀ (a : Expr) (b : Expr) (r : Bool), F_r0 n a b = some r → saysOf Tryz.prog 14 [.v (.agg [.int .i64 a.Op, .int .i64 a.N, .str a.S, encL 4 enc_Expr a.Args]), .v (.agg [.int .i64 b.Op, .int .i64 b.N, .str b.S, encL 4 enc_Expr b.Args])] [] [] (.ret (.v (.bool r)) none) [] := by
 induction n with
 | zero => intro a b r h; have h2 : (none : Option _) = some r := h; cases h2
 | succ m ih => intro a b r h; exact cB_ref08_EqualExpr m (F_r0 m) ih a b r h
theorem cB_ref08_EqualBody (n : Nat) (f_s0 : (List Stmt) → (List Stmt) → Option Bool) (i_s0 : ∀ (a : List Stmt) (b : List Stmt) (r : Bool), f_s0 a b = some r → saysOf Tryz.prog 43 [.v (encL 13 enc_Stmt a), .v (encL 13 enc_Stmt b)] [] [] (.ret (.v (.bool r)) none) []) (a : List Stmt) (b : List Stmt) (r : Bool) (h : B_s0 n f_s0 a b = some r) : saysOf Tryz.prog 43 [.v (encL 13 enc_Stmt a), .v (encL 13 enc_Stmt b)] [] [] (.ret (.v (.bool r)) none) [] := by
 refine sw_ tt_ok Tryz.func43 rfl rfl rfl ?_
 unfold B_s0 at h
 refine AWp.seq (AWp.rg tt_ok [] (by kernel_rfl) all_nil ?_)
 refine AE.tn_ (AWp.seq (AWp.seq (AWp.rg tt_ok [] (by kernel_rfl) all_nil ?_)))
 refine AE.tn_ (AWp.cnd h (by kernel_rfl) ?_ ?_) <;> clear h <;> intro h
 ·refine AWp.seq (AWp.rg tt_ok [] (by kernel_rfl) all_nil ?_)
  refine AE.tn_ (AWp.ret ?_)
  obtain rfl := Option.some.inj h
  exact AE.tr_ (post_ret (by kernel_rfl))
 ·refine AWp.skip (AE.tn_ (AWp.cut (fun st' => restr [] [] 0 st'.env st'.H st'.nxt = some ⟨[], [], 0⟩ ∧ F_s0_j1 n f_s0 = some r) ?_ ?_))
  ·refine AWp.seq (AWp.rg tt_ok [] (by kernel_rfl) all_nil ?_)
   refine AE.tn_ (AWp.block (AWp.loop (σ := Int) (fun zm zs zst => restr [0, 1, 5] [] 0 zst.env zst.H zst.nxt = some ⟨[(0, ⟨.v (encL 13 enc_Stmt a), none⟩), (1, ⟨.v (encL 13 enc_Stmt b), none⟩), (5, ⟨.v (.int .i64 zs), none⟩)], [], 0⟩ ∧ F_s0_l2 n f_s0 a b zm zs = some r) ?_ (n := n) (s := 0) ⟨by kernel_rfl, h⟩))
   clear h
   rintro m2 v9 st' ⟨hr', h⟩
   cases m2 with
   | zero =>
    have h2 : (none : Option _) = some r := h
    cases h2
   | succ m2 =>
    refine ⟨m2, rfl, AWp.drop _ _ _ hr' (by kernel_rfl) ?_⟩
    clear hr' st'
    replace h : F_s0_b2 n f_s0 a b (F_s0_l2 n f_s0 a b m2) v9 = some r := h
    unfold F_s0_b2 at h
    refine AWp.seq (AWp.seq (AWp.rg tt_ok [] (by kernel_rfl) all_nil ?_))
    refine AE.tn_ (AWp.cnd h (by kernel_rfl) ?_ ?_) <;> clear h <;> intro h
    ·refine AWp.skip (AE.tn_ (AWp.seq (AWp.block (AWp.seq ?_))))
     obtain ⟨g10, h⟩ := ass_some h
     obtain ⟨g11, h⟩ := ass_some h
     refine AWp.rgD tt_ok mo_ok [(2, [orv (enc_vimp_Stmt (a.getD (v9).toNat default))]), (6, [orv (enc_vimp_Stmt (b.getD (v9).toNat default))])] (by kernel_rfl) (all_cons (enc_vimp_Stmt (b.getD (v9).toNat default)) (all_cons g11 (all_cons (enc_vimp_Stmt (a.getD (v9).toNat default)) (all_cons g10 all_nil)))) ?_
     refine AE.tn_ (AWp.seq ?_)
     obtain ⟨r12, hr12, h⟩ := bind_some h
     have pr12 := fun c1 => c_r0 n (⟨((a.getD (v9).toNat default).A).Op, ((a.getD (v9).toNat default).A).N, ((a.getD (v9).toNat default).A).S, ((a.getD (v9).toNat default).A).Args⟩ : Expr) (⟨((b.getD (v9).toNat default).A).Op, ((b.getD (v9).toNat default).A).N, ((b.getD (v9).toNat default).A).S, ((b.getD (v9).toNat default).A).Args⟩ : Expr) _ (cond_t (not_t c1) hr12)
     obtain ⟨r13, hr13, h⟩ := bind_some h
     have pr13 := fun c1 => c_r0 n (⟨((a.getD (v9).toNat default).B).Op, ((a.getD (v9).toNat default).B).N, ((a.getD (v9).toNat default).B).S, ((a.getD (v9).toNat default).B).Args⟩ : Expr) (⟨((b.getD (v9).toNat default).B).Op, ((b.getD (v9).toNat default).B).N, ((b.getD (v9).toNat default).B).S, ((b.getD (v9).toNat default).B).Args⟩ : Expr) _ (cond_t (not_t c1) hr13)
     obtain ⟨r14, hr14, h⟩ := bind_some h
     have pr14 := fun c1 => i_s0 ((a.getD (v9).toNat default).Body) ((b.getD (v9).toNat default).Body) _ (cond_t (not_t c1) hr14)
     obtain ⟨r15, hr15, h⟩ := bind_some h
     have pr15 := fun c1 => i_s0 ((a.getD (v9).toNat default).Else) ((b.getD (v9).toNat default).Else) _ (cond_t (not_t c1) hr15)
     refine AWp.rg tt_ok [orn1 pr12, orn1 pr13, orn1 pr14, orn1 pr15] (by kernel_rfl) (all_cons pr15 (all_cons pr14 (all_cons pr13 (all_cons pr12 all_nil)))) ?_
     refine AE.tn_ (AWp.cnd h (by kernel_rfl) ?_ ?_) <;> clear h <;> intro h
     ·refine AWp.seq (AWp.rg tt_ok [] (by kernel_rfl) all_nil ?_)
      refine AE.tn_ (AWp.ret ?_)
      obtain rfl := Option.some.inj h
      exact AE.br_ (AE.tr_ (AE.tr_ (AE.br_ (AE.tr_ (post_ret (by kernel_rfl))))))
     ·refine AWp.skip (AE.bn_ (AE.tn_ ?_))
      refine AWp.rg tt_ok [] (by kernel_rfl) all_nil ?_
      exact AE.tn_ ⟨(IntKind.i64.wrap (v9 + 1)), by kernel_rfl, h⟩
    ·refine AWp.exit ?_
     exact AE.tx_ (AE.tx_ (AE.block_hit (AE.tn_ ⟨by kernel_rfl, h⟩)))
  ·clear h
   rintro st' ⟨hr', h⟩
   refine AWp.drop _ _ _ hr' (by kernel_rfl) ?_
   clear hr' st'
   unfold F_s0_j1 at h
   refine AWp.seq (AWp.rg tt_ok [] (by kernel_rfl) all_nil ?_)
   refine AE.tn_ (AWp.ret ?_)
   obtain rfl := Option.some.inj h
   exact post_ret (by kernel_rfl)
theorem c_s0 (n : Nat) : ∀ (a : List Stmt) (b : List Stmt) (r : Bool), F_s0 n a b = some r → saysOf Tryz.prog 43 [.v (encL 13 enc_Stmt a), .v (encL 13 enc_Stmt b)] [] [] (.ret (.v (.bool r)) none) [] := by
 induction n with
 | zero => intro a b r h; have h2 : (none : Option _) = some r := h; cases h2
 | succ m ih => intro a b r h; exact cB_ref08_EqualBody m (F_s0 m) ih a b r h
theorem c_ay0 (n : Nat) (a : Proc) (b : Proc) (r : Bool) (h : F_ay0 n a b = some r) : saysOf Tryz.prog 17 [.v (.agg [.str a.Name, encL 2 enc_Param a.Params, encL 13 enc_Stmt a.Body]), .v (.agg [.str b.Name, encL 2 enc_Param b.Params, encL 13 enc_Stmt b.Body])] [] [] (.ret (.v (.bool r)) none) [] := by
 refine sw_ tt_ok Tryz.func17 rfl rfl rfl ?_
 unfold F_ay0 at h
 refine AWp.seq (AWp.rg tt_ok [] (by kernel_rfl) all_nil ?_)
 refine AE.tn_ (AWp.seq (AWp.seq (AWp.rg tt_ok [] (by kernel_rfl) all_nil ?_)))
 refine AE.tn_ (AWp.cnd h (by kernel_rfl) ?_ ?_) <;> clear h <;> intro h
 ·refine AWp.seq (AWp.rg tt_ok [] (by kernel_rfl) all_nil ?_)
  refine AE.tn_ (AWp.ret ?_)
  obtain rfl := Option.some.inj h
  exact AE.tr_ (post_ret (by kernel_rfl))
 ·refine AWp.skip (AE.tn_ (AWp.cut (fun st' => restr [2, 3] [0, 1] 2 st'.env st'.H st'.nxt = some ⟨[(2, ⟨.ptr 0 0, none⟩), (3, ⟨.ptr 1 0, none⟩)], [(0, [⟨.v (.str a.Name), none⟩, ⟨.v (encL 2 enc_Param a.Params), none⟩, ⟨.v (encL 13 enc_Stmt a.Body), none⟩]), (1, [⟨.v (.str b.Name), none⟩, ⟨.v (encL 2 enc_Param b.Params), none⟩, ⟨.v (encL 13 enc_Stmt b.Body), none⟩])], 2⟩ ∧ F_ay0_j1 n a b = some r) ?_ ?_))
  ·refine AWp.seq (AWp.rg tt_ok [] (by kernel_rfl) all_nil ?_)
   refine AE.tn_ (AWp.block (AWp.loop (σ := Int) (fun zm zs zst => restr [2, 3, 5] [0, 1] 2 zst.env zst.H zst.nxt = some ⟨[(2, ⟨.ptr 0 0, none⟩), (3, ⟨.ptr 1 0, none⟩), (5, ⟨.v (.int .i64 zs), none⟩)], [(0, [⟨.v (.str a.Name), none⟩, ⟨.v (encL 2 enc_Param a.Params), none⟩, ⟨.v (encL 13 enc_Stmt a.Body), none⟩]), (1, [⟨.v (.str b.Name), none⟩, ⟨.v (encL 2 enc_Param b.Params), none⟩, ⟨.v (encL 13 enc_Stmt b.Body), none⟩])], 2⟩ ∧ F_ay0_l2 n a b zm zs = some r) ?_ (n := n) (s := 0) ⟨by kernel_rfl, h⟩))
   clear h
   rintro m2 v5 st' ⟨hr', h⟩
   cases m2 with
   | zero =>
    have h2 : (none : Option _) = some r := h
    cases h2
   | succ m2 =>
    refine ⟨m2, rfl, AWp.drop _ _ _ hr' (by kernel_rfl) ?_⟩
    clear hr' st'
    replace h : F_ay0_b2 n a b (F_ay0_l2 n a b m2) v5 = some r := h
    unfold F_ay0_b2 at h
    refine AWp.seq (AWp.seq (AWp.rg tt_ok [] (by kernel_rfl) all_nil ?_))
    refine AE.tn_ (AWp.cnd h (by kernel_rfl) ?_ ?_) <;> clear h <;> intro h
    ·refine AWp.skip (AE.tn_ (AWp.seq (AWp.block (AWp.seq ?_))))
     obtain ⟨g6, h⟩ := ass_some h
     obtain ⟨g7, h⟩ := ass_some h
     refine AWp.rgD tt_ok mo_ok [(3, [.raw]), (8, [.raw])] (by kernel_rfl) (all_cons g7 (all_cons g6 all_nil)) ?_
     refine AE.tn_ (AWp.cnd h (by kernel_rfl) ?_ ?_) <;> clear h <;> intro h
     ·refine AWp.seq (AWp.rg tt_ok [] (by kernel_rfl) all_nil ?_)
      refine AE.tn_ (AWp.ret ?_)
      obtain rfl := Option.some.inj h
      exact AE.br_ (AE.tr_ (AE.tr_ (AE.br_ (AE.tr_ (post_ret (by kernel_rfl))))))
     ·refine AWp.skip (AE.bn_ (AE.tn_ ?_))
      refine AWp.rg tt_ok [] (by kernel_rfl) all_nil ?_
      exact AE.tn_ ⟨(IntKind.i64.wrap (v5 + 1)), by kernel_rfl, h⟩
    ·refine AWp.exit ?_
     exact AE.tx_ (AE.tx_ (AE.block_hit (AE.tn_ ⟨by kernel_rfl, h⟩)))
  ·clear h
   rintro st' ⟨hr', h⟩
   refine AWp.drop _ _ _ hr' (by kernel_rfl) ?_
   clear hr' st'
   unfold F_ay0_j1 at h
   refine AWp.seq ?_
   obtain ⟨r9, hr9, h⟩ := bind_some h
   have pr9 := c_s0 n a.Body b.Body _ hr9
   refine AWp.rg tt_ok [orn pr9 []] (by kernel_rfl) (all_cons pr9 all_nil) ?_
   refine AE.tn_ (AWp.ret ?_)
   obtain rfl := Option.some.inj h
   exact post_ret (by kernel_rfl)
theorem c_bh0 (n : Nat) (a : List Proc) (b : List Proc) (r : Bool) (h : F_bh0 n a b = some r) : saysOf Tryz.prog 20 [.v (encL 3 enc_Proc a), .v (encL 3 enc_Proc b)] [] [] (.ret (.v (.bool r)) none) [] := by
 refine sw_ tt_ok Tryz.func20 rfl rfl rfl ?_
 unfold F_bh0 at h
 refine AWp.seq (AWp.rg tt_ok [] (by kernel_rfl) all_nil ?_)
 refine AE.tn_ (AWp.seq (AWp.seq (AWp.rg tt_ok [] (by kernel_rfl) all_nil ?_)))
 refine AE.tn_ (AWp.cnd h (by kernel_rfl) ?_ ?_) <;> clear h <;> intro h
 ·refine AWp.seq (AWp.rg tt_ok [] (by kernel_rfl) all_nil ?_)
  refine AE.tn_ (AWp.ret ?_)
  obtain rfl := Option.some.inj h
  exact AE.tr_ (post_ret (by kernel_rfl))
 ·refine AWp.skip (AE.tn_ (AWp.cut (fun st' => restr [] [] 0 st'.env st'.H st'.nxt = some ⟨[], [], 0⟩ ∧ F_bh0_j1 n = some r) ?_ ?_))
  ·refine AWp.seq (AWp.rg tt_ok [] (by kernel_rfl) all_nil ?_)
   refine AE.tn_ (AWp.block (AWp.loop (σ := Int) (fun zm zs zst => restr [0, 1, 5] [] 0 zst.env zst.H zst.nxt = some ⟨[(0, ⟨.v (encL 3 enc_Proc a), none⟩), (1, ⟨.v (encL 3 enc_Proc b), none⟩), (5, ⟨.v (.int .i64 zs), none⟩)], [], 0⟩ ∧ F_bh0_l2 n a b zm zs = some r) ?_ (n := n) (s := 0) ⟨by kernel_rfl, h⟩))
   clear h
   rintro m2 v6 st' ⟨hr', h⟩
   cases m2 with
   | zero =>
    have h2 : (none : Option _) = some r := h
    cases h2
   | succ m2 =>
    refine ⟨m2, rfl, AWp.drop _ _ _ hr' (by kernel_rfl) ?_⟩
    clear hr' st'
    replace h : F_bh0_b2 n a b (F_bh0_l2 n a b m2) v6 = some r := h
    unfold F_bh0_b2 at h
    refine AWp.seq (AWp.seq (AWp.rg tt_ok [] (by kernel_rfl) all_nil ?_))
    refine AE.tn_ (AWp.cnd h (by kernel_rfl) ?_ ?_) <;> clear h <;> intro h
    ·refine AWp.skip (AE.tn_ (AWp.seq (AWp.block (AWp.seq ?_))))
     obtain ⟨g7, h⟩ := ass_some h
     obtain ⟨g8, h⟩ := ass_some h
     obtain ⟨r9, hr9, h⟩ := bind_some h
     have pr9 := c_ay0 n (a.getD (v6).toNat default) (b.getD (v6).toNat default) _ hr9
     refine AWp.rgD tt_ok mo_ok [(2, [.raw]), (6, [.raw]), (8, [orn pr9 []])] (by kernel_rfl) (all_cons pr9 (all_cons g8 (all_cons g7 all_nil))) ?_
     refine AE.tn_ (AWp.cnd h (by kernel_rfl) ?_ ?_) <;> clear h <;> intro h
     ·refine AWp.seq (AWp.rg tt_ok [] (by kernel_rfl) all_nil ?_)
      refine AE.tn_ (AWp.ret ?_)
      obtain rfl := Option.some.inj h
      exact AE.br_ (AE.tr_ (AE.tr_ (AE.br_ (AE.tr_ (post_ret (by kernel_rfl))))))
     ·refine AWp.skip (AE.bn_ (AE.tn_ ?_))
      refine AWp.rg tt_ok [] (by kernel_rfl) all_nil ?_
      exact AE.tn_ ⟨(IntKind.i64.wrap (v6 + 1)), by kernel_rfl, h⟩
    ·refine AWp.exit ?_
     exact AE.tx_ (AE.tx_ (AE.block_hit (AE.tn_ ⟨by kernel_rfl, h⟩)))
  ·clear h
   rintro st' ⟨hr', h⟩
   refine AWp.drop _ _ _ hr' (by kernel_rfl) ?_
   clear hr' st'
   unfold F_bh0_j1 at h
   refine AWp.seq (AWp.rg tt_ok [] (by kernel_rfl) all_nil ?_)
   refine AE.tn_ (AWp.ret ?_)
   obtain rfl := Option.some.inj h
   exact post_ret (by kernel_rfl)
theorem c_bb0 (n : Nat) (s : List UInt8) (r : Bool) (h : F_bb0 n s = some r) : saysOf Tryz.prog 118 [.v (.str s)] [] [] (.ret (.v (.bool r)) none) [] := by
 refine sw_ tt_ok Tryz.func118 rfl rfl rfl ?_
 unfold F_bb0 at h
 refine AWp.seq (AWp.rg tt_ok [] (by kernel_rfl) all_nil ?_)
 refine AE.tn_ (AWp.cut (fun st' => restr [] [] 0 st'.env st'.H st'.nxt = some ⟨[], [], 0⟩ ∧ F_bb0_j1 n = some r) ?_ ?_)
 ·refine AWp.seq (AWp.rg tt_ok [] (by kernel_rfl) all_nil ?_)
  refine AE.tn_ (AWp.block (AWp.loop (σ := Int) (fun zm zs zst => restr [0, 5, 6] [] 0 zst.env zst.H zst.nxt = some ⟨[(0, ⟨.v (.str s), none⟩), (5, ⟨.v (.int .i64 ((s.length : Nat) : Int)), none⟩), (6, ⟨.v (.int .i64 zs), none⟩)], [], 0⟩ ∧ F_bb0_l2 n s zm zs = some r) ?_ (n := n) (s := 0) ⟨by kernel_rfl, h⟩))
  clear h
  rintro m2 v4 st' ⟨hr', h⟩
  cases m2 with
  | zero =>
   have h2 : (none : Option _) = some r := h
   cases h2
  | succ m2 =>
   refine ⟨m2, rfl, AWp.drop _ _ _ hr' (by kernel_rfl) ?_⟩
   clear hr' st'
   replace h : F_bb0_b2 n s (F_bb0_l2 n s m2) v4 = some r := h
   unfold F_bb0_b2 at h
   refine AWp.seq (AWp.rg tt_ok [] (by kernel_rfl) all_nil ?_)
   refine AE.tn_ (AWp.seq (AWp.cnd h (by kernel_rfl) ?_ ?_)) <;> clear h <;> intro h
   ·refine AWp.skip (AE.tn_ (AWp.seq (AWp.block (AWp.seq (AWp.rg tt_ok [] (by kernel_rfl) all_nil ?_)))))
    refine AE.tn_ (AWp.seq ?_)
    obtain ⟨g5, h⟩ := ass_some h
    obtain ⟨g6, h⟩ := ass_some h
    refine AWp.rg tt_ok [] (by kernel_rfl) (all_cons (orF g6) (all_cons g5 all_nil)) ?_
    refine AE.tn_ (AWp.cnd h (by kernel_rfl) ?_ ?_) <;> clear h <;> intro h
    ·refine AWp.seq (AWp.rg tt_ok [] (by kernel_rfl) all_nil ?_)
     refine AE.tn_ (AWp.ret ?_)
     obtain rfl := Option.some.inj h
     exact AE.br_ (AE.tr_ (AE.tr_ (AE.br_ (AE.tr_ (post_ret (by kernel_rfl))))))
    ·refine AWp.skip (AE.bn_ (AE.tn_ ?_))
     refine AWp.rg tt_ok [] (by kernel_rfl) all_nil ?_
     exact AE.tn_ ⟨(IntKind.i64.wrap (v4 + 1)), by kernel_rfl, h⟩
   ·refine AWp.exit ?_
    exact AE.tx_ (AE.tx_ (AE.block_hit (AE.tn_ ⟨by kernel_rfl, h⟩)))
 ·clear h
  rintro st' ⟨hr', h⟩
  refine AWp.drop _ _ _ hr' (by kernel_rfl) ?_
  clear hr' st'
  unfold F_bb0_j1 at h
  refine AWp.seq (AWp.rg tt_ok [] (by kernel_rfl) all_nil ?_)
  refine AE.tn_ (AWp.ret ?_)
  obtain rfl := Option.some.inj h
  exact post_ret (by kernel_rfl)

theorem c_cb0 (n : Nat) (b0_1_ : List Int) (r : (List UInt8) × (List Int)) (h : F_cb0 n b0_1_ = some r) : saysOf Tryz.prog 60 [.ptr 0 0] [] [[⟨.sptr 0 0 90, none⟩, ⟨.v (encL 1 e_u8 b0_1_), (some 5)⟩]] (.ret (.v (.str r.1)) none) [[⟨.sptr 0 0 90, none⟩, ⟨.v (encL 1 e_u8 r.2), none⟩]] := by
 unfold F_cb0 at h
 obtain ⟨g, h⟩ := ass_some h
 obtain rfl := Option.some.inj h
 exact says_builderString (T5 := 5) Tryz.func60 rfl (by kernel_rfl) cellsByte bstr_nil bstr_room bstr_noroom bstr_some (bld_get g) (bld_len g)

theorem c_bz0 (n : Nat) (b0_1_ : List Int) (r : Unit) (h : F_bz0 n b0_1_ = some r) : saysOf Tryz.prog 119 [.ptr 0 0] [] [[⟨.sptr 0 0 90, none⟩, ⟨.v (encL 1 e_u8 b0_1_), (some 5)⟩]] (.ret (.tup []) none) [[⟨.sptr 0 0 90, none⟩, ⟨.v (encL 1 e_u8 b0_1_), (some 5)⟩]] := by
 unfold F_bz0 at h
 obtain rfl := Option.some.inj h
 exact says_copyCheck Tryz.func119 rfl (by kernel_rfl) copyCheck_used copyCheck_fresh rfl
theorem c_aj0 (n : Nat) (c : Int) (b0_1_ : List Int) (r : (List Int)) (h : F_aj0 n c b0_1_ = some r) : saysOf Tryz.prog 67 [.ptr 0 0, .v (.int .u8 c)] [] [[⟨.sptr 0 0 90, none⟩, ⟨.v (encL 1 e_u8 b0_1_), (some 5)⟩]] (.ret (.v (.nili)) none) [[⟨.sptr 0 0 90, none⟩, ⟨.v (encL 1 e_u8 r), (some 5)⟩]] := by
 refine sw_ tt_ok Tryz.func67 rfl rfl rfl ?_
 unfold F_aj0 at h
 refine AWp.seq (AWp.rg tt_ok [] (by kernel_rfl) all_nil ?_)
 refine AE.tn_ (AWp.seq ?_)
 obtain ⟨r1, hr1, h⟩ := bind_some h
 have pr1 := c_bz0 n b0_1_ _ hr1
 refine AWp.rg tt_ok [orn pr1 []] (by kernel_rfl) (all_cons pr1 all_nil) ?_
 refine AE.tn_ (AWp.seq ?_)
 obtain ⟨g2, h⟩ := ass_some h
 refine AWp.rg tt_ok [.own, .val (encL 1 e_u8 ([c] : List Int)), .val (encL 1 e_u8 (b0_1_ ++ ([c] : List Int)))] (by kernel_rfl) (all_cons (vimp_app (k := 1) (e := e_u8) b0_1_ ([c] : List Int)) (all_cons g2 (all_cons (vimp_litm (k := 1) (e := e_u8) ([c] : List Int)) all_nil))) ?_
 refine AE.tn_ (AWp.seq (AWp.rg tt_ok [] (by kernel_rfl) all_nil ?_))
 refine AE.tn_ (AWp.ret ?_)
 obtain rfl := Option.some.inj h
 exact post_ret (by kernel_rfl)
theorem c_ak0 (n : Nat) (s : List UInt8) (r : (List UInt8) × Int) (h : F_ak0 n s = some r) : saysOf Tryz.prog 70 [.v (.str s)] [] [] (.ret (.tup [.v (.str r.1), .v (.int .i64 r.2)]) none) [] := by
 refine sw_ tt_ok Tryz.func70 rfl rfl rfl ?_
 unfold F_ak0 at h
 refine AWp.seq (AWp.rg tt_ok [] (by kernel_rfl) all_nil ?_)
 refine AE.tn_ (AWp.seq (AWp.seq (AWp.rg tt_ok [] (by kernel_rfl) all_nil ?_)))
 refine AE.tn_ (AWp.cnd h (by kernel_rfl) ?_ ?_) <;> clear h <;> intro h
 ·refine AWp.seq (AWp.rg tt_ok [] (by kernel_rfl) all_nil ?_)
  refine AE.tn_ (AWp.ret ?_)
  obtain rfl := Option.some.inj h
  exact AE.tr_ (post_ret (by kernel_rfl))
 ·refine AWp.skip (AE.tn_ (AWp.seq (AWp.seq ?_)))
  obtain ⟨r2, hr2, h⟩ := bind_some h
  have pr2 := c_bb0 n s _ hr2
  refine AWp.rg tt_ok [orn pr2 []] (by kernel_rfl) (all_cons pr2 all_nil) ?_
  refine AE.tn_ (AWp.cnd h (by kernel_rfl) ?_ ?_) <;> clear h <;> intro h
  ·refine AWp.seq (AWp.rg tt_ok [] (by kernel_rfl) all_nil ?_)
   refine AE.tn_ (AWp.ret ?_)
   obtain rfl := Option.some.inj h
   exact AE.tr_ (post_ret (by kernel_rfl))
  ·refine AWp.skip (AE.tn_ (AWp.seq (AWp.rg tt_ok [] (by kernel_rfl) all_nil ?_)))
   refine AE.tn_ (AWp.seq ?_)
   obtain ⟨r4, hr4, h⟩ := bind_some h
   have pr4 := c_aj0 n 34 ([] : List Int) _ hr4
   refine AWp.rg tt_ok [orc pr4 []] (by kernel_rfl) (all_cons pr4 all_nil) ?_
   refine AE.tn_ (AWp.cut (fun st' => ∃ (v25 : List Int), restr [4] [0] 1 st'.env st'.H st'.nxt = some ⟨[(4, ⟨.ptr 0 0, none⟩)], [(0, [⟨.sptr 0 0 90, none⟩, ⟨.v (encL 1 e_u8 v25), (some 5)⟩])], 1⟩ ∧ F_ak0_j1 n v25 = some r) ?_ ?_)
   ·refine AWp.seq (AWp.rg tt_ok [] (by kernel_rfl) all_nil ?_)
    refine AE.tn_ (AWp.block (AWp.loop (σ := (List Int) × Int) (fun zm zs zst => restr [0, 4, 14, 15] [0] 1 zst.env zst.H zst.nxt = some ⟨[(0, ⟨.v (.str s), none⟩), (4, ⟨.ptr 0 0, none⟩), (14, ⟨.v (.int .i64 ((s.length : Nat) : Int)), none⟩), (15, ⟨.v (.int .i64 zs.2), none⟩)], [(0, [⟨.sptr 0 0 90, none⟩, ⟨.v (encL 1 e_u8 zs.1), (some 5)⟩])], 1⟩ ∧ F_ak0_l2 n s zm zs.1 zs.2 = some r) ?_ (n := n) (s := (r4, 0)) ⟨by kernel_rfl, h⟩))
    clear h
    rintro m2 ⟨v14, v15⟩ st' ⟨hr', h⟩
    cases m2 with
    | zero =>
     have h2 : (none : Option _) = some r := h
     cases h2
    | succ m2 =>
     refine ⟨m2, rfl, AWp.drop _ _ _ hr' (by kernel_rfl) ?_⟩
     clear hr' st'
     replace h : F_ak0_b2 n s (F_ak0_l2 n s m2) v14 v15 = some r := h
     unfold F_ak0_b2 at h
     refine AWp.seq (AWp.rg tt_ok [] (by kernel_rfl) all_nil ?_)
     refine AE.tn_ (AWp.seq (AWp.cnd h (by kernel_rfl) ?_ ?_)) <;> clear h <;> intro h
     ·refine AWp.skip (AE.tn_ (AWp.cut (fun st' => ∃ (v22 : List Int), restr [0, 4, 14, 15] [0] 1 st'.env st'.H st'.nxt = some ⟨[(0, ⟨.v (.str s), none⟩), (4, ⟨.ptr 0 0, none⟩), (14, ⟨.v (.int .i64 ((s.length : Nat) : Int)), none⟩), (15, ⟨.v (.int .i64 v15), none⟩)], [(0, [⟨.sptr 0 0 90, none⟩, ⟨.v (encL 1 e_u8 v22), (some 5)⟩])], 1⟩ ∧ F_ak0_j3 n (F_ak0_l2 n s m2) s v15 v22 = some r) ?_ ?_))
      ·refine AWp.block (AWp.seq (AWp.rg tt_ok [] (by kernel_rfl) all_nil ?_))
       refine AE.tn_ (AWp.cut (fun st' => ∃ (v19 : List Int), restr [0, 4, 5, 14, 15] [0] 1 st'.env st'.H st'.nxt = some ⟨[(0, ⟨.v (.str s), none⟩), (4, ⟨.ptr 0 0, none⟩), (5, ⟨.v (.int .i64 v15), none⟩), (14, ⟨.v (.int .i64 ((s.length : Nat) : Int)), none⟩), (15, ⟨.v (.int .i64 v15), none⟩)], [(0, [⟨.sptr 0 0 90, none⟩, ⟨.v (encL 1 e_u8 v19), (some 5)⟩])], 1⟩ ∧ F_ak0_j4 n (F_ak0_l2 n s m2) s v15 v19 = some r) ?_ ?_)
       ·refine AWp.seq ?_
        obtain ⟨g16, h⟩ := ass_some h
        obtain ⟨g17, h⟩ := ass_some h
        refine AWp.rg tt_ok [] (by kernel_rfl) (all_cons (orF g17) (all_cons g16 all_nil)) ?_
        refine AE.tn_ (AWp.cnd h (by kernel_rfl) ?_ ?_) <;> clear h <;> intro h
        ·obtain ⟨r18, hr18, h⟩ := bind_some h
         have pr18 := c_aj0 n 92 v14 _ hr18
         refine AWp.rg tt_ok [orc pr18 []] (by kernel_rfl) (all_cons pr18 all_nil) ?_
         exact AE.tn_ ⟨r18, by kernel_rfl, h⟩
        ·exact AWp.skip (AE.tn_ ⟨v14, by kernel_rfl, h⟩)
       ·clear h
        rintro st' ⟨v19, hr', h⟩
        refine AWp.drop _ _ _ hr' (by kernel_rfl) ?_
        clear hr' st'
        unfold F_ak0_j4 at h
        obtain ⟨g20, h⟩ := ass_some h
        obtain ⟨r21, hr21, h⟩ := bind_some h
        have pr21 := c_aj0 n (((s.getD (v15).toNat 0).toNat : Nat) : Int) v19 _ hr21
        refine AWp.rg tt_ok [orc pr21 []] (by kernel_rfl) (all_cons pr21 (all_cons g20 all_nil)) ?_
        exact AE.bn_ (AE.tn_ ⟨r21, by kernel_rfl, h⟩)
      ·clear h
       rintro st' ⟨v22, hr', h⟩
       refine AWp.drop _ _ _ hr' (by kernel_rfl) ?_
       clear hr' st'
       unfold F_ak0_j3 at h
       refine AWp.rg tt_ok [] (by kernel_rfl) all_nil ?_
       exact AE.tn_ ⟨(v22, (IntKind.i64.wrap (v15 + 1))), by kernel_rfl, h⟩
     ·refine AWp.exit ?_
      exact AE.tx_ (AE.tx_ (AE.block_hit (AE.tn_ ⟨v14, by kernel_rfl, h⟩)))
   ·clear h
    rintro st' ⟨v25, hr', h⟩
    refine AWp.drop _ _ _ hr' (by kernel_rfl) ?_
    clear hr' st'
    unfold F_ak0_j1 at h
    refine AWp.seq ?_
    obtain ⟨r26, hr26, h⟩ := bind_some h
    have pr26 := c_aj0 n 34 v25 _ hr26
    refine AWp.rg tt_ok [orc pr26 []] (by kernel_rfl) (all_cons pr26 all_nil) ?_
    refine AE.tn_ (AWp.seq ?_)
    obtain ⟨r27, hr27, h⟩ := bind_some h
    have pr27 := c_cb0 n r26 _ hr27
    refine AWp.rg tt_ok [orc pr27 []] (by kernel_rfl) (all_cons pr27 all_nil) ?_
    refine AE.tn_ (AWp.ret ?_)
    obtain rfl := Option.some.inj h
    exact post_ret (by kernel_rfl)
theorem c_ds0 (n : Nat) (n_ : Int) (r : (List UInt8)) (h : F_ds0 n n_ = some r) : saysOf Tryz.prog 69 [.v (.int .i64 n_)] [] [] (.ret (.v (.str r)) none) [] := by
 refine sw_ tt_ok Tryz.func69 rfl rfl rfl ?_
 unfold F_ds0 at h
 refine AWp.seq (AWp.rg tt_ok [] (by kernel_rfl) all_nil ?_)
 refine AE.tn_ (AWp.seq ?_)
 obtain ⟨r1, hr1, h⟩ := bind_some h
 have pr1 := c_cn0 n n_ 10 _ hr1
 refine AWp.rg tt_ok [orn pr1 []] (by kernel_rfl) (all_cons pr1 all_nil) ?_
 refine AE.tn_ (AWp.ret ?_)
 obtain rfl := Option.some.inj h
 exact post_ret (by kernel_rfl)
theorem c_af0 (n : Nat) (op : Int) (r : Int) (h : F_af0 n op = some r) : saysOf Tryz.prog 99 [.v (.int .i64 op)] [] [] (.ret (.v (.int .i64 r)) none) [] := by
 refine sw_ tt_ok Tryz.func99 rfl rfl rfl ?_
 unfold F_af0 at h
 refine AWp.seq (AWp.rg tt_ok [] (by kernel_rfl) all_nil ?_)
 refine AE.tn_ (AWp.cut (fun st' => restr [] [] 0 st'.env st'.H st'.nxt = some ⟨[], [], 0⟩ ∧ F_af0_j1 n = some r) ?_ ?_)
 ·refine AWp.seq (AWp.rg tt_ok [] (by kernel_rfl) all_nil ?_)
  refine AE.tn_ (AWp.block (AWp.seq (AWp.rg tt_ok [] (by kernel_rfl) all_nil ?_)))
  refine AE.tn_ (AWp.cnd h (by kernel_rfl) ?_ ?_) <;> clear h <;> intro h
  ·refine AWp.seq (AWp.rg tt_ok [] (by kernel_rfl) all_nil ?_)
   refine AE.tn_ (AWp.ret ?_)
   obtain rfl := Option.some.inj h
   exact AE.br_ (AE.tr_ (post_ret (by kernel_rfl)))
  ·refine AWp.seq (AWp.rg tt_ok [] (by kernel_rfl) all_nil ?_)
   refine AE.tn_ (AWp.cnd h (by kernel_rfl) ?_ ?_) <;> clear h <;> intro h
   ·refine AWp.seq (AWp.rg tt_ok [] (by kernel_rfl) all_nil ?_)
    refine AE.tn_ (AWp.ret ?_)
    obtain rfl := Option.some.inj h
    exact AE.br_ (AE.tr_ (post_ret (by kernel_rfl)))
   ·refine AWp.seq (AWp.rg tt_ok [] (by kernel_rfl) all_nil ?_)
    refine AE.tn_ (AWp.cnd h (by kernel_rfl) ?_ ?_) <;> clear h <;> intro h
    ·refine AWp.seq (AWp.rg tt_ok [] (by kernel_rfl) all_nil ?_)
     refine AE.tn_ (AWp.ret ?_)
     obtain rfl := Option.some.inj h
     exact AE.br_ (AE.tr_ (post_ret (by kernel_rfl)))
    ·refine AWp.cut (fun st' => ∃ (v1 : Bool), restr [3, 10] [] 0 st'.env st'.H st'.nxt = some ⟨[(3, ⟨.v (.int .i64 op), none⟩), (10, ⟨.v (.bool v1), none⟩)], [], 0⟩ ∧ F_af0_j2 n op v1 = some r) ?_ ?_
     ·refine AWp.seq (AWp.rg tt_ok [] (by kernel_rfl) all_nil ?_)
      refine AE.tn_ (AWp.cnd h (by kernel_rfl) ?_ ?_) <;> clear h <;> intro h
      ·exact AWp.skip (AE.tn_ ⟨(decide (op = 10)), by kernel_rfl, h⟩)
      ·refine AWp.seq (AWp.rg tt_ok [] (by kernel_rfl) all_nil ?_)
       refine AE.tn_ (AWp.cnd h (by kernel_rfl) ?_ ?_) <;> clear h <;> intro h
       ·exact AWp.skip (AE.tn_ ⟨(decide (op = 11)), by kernel_rfl, h⟩)
       ·refine AWp.seq (AWp.rg tt_ok [] (by kernel_rfl) all_nil ?_)
        refine AE.tn_ (AWp.cnd h (by kernel_rfl) ?_ ?_) <;> clear h <;> intro h
        ·exact AWp.skip (AE.tn_ ⟨(decide (op = 12)), by kernel_rfl, h⟩)
        ·refine AWp.seq (AWp.rg tt_ok [] (by kernel_rfl) all_nil ?_)
         refine AE.tn_ (AWp.cnd h (by kernel_rfl) ?_ ?_) <;> clear h <;> intro h
         ·exact AWp.skip (AE.tn_ ⟨(decide (op = 13)), by kernel_rfl, h⟩)
         ·refine AWp.seq (AWp.rg tt_ok [] (by kernel_rfl) all_nil ?_)
          refine AE.tn_ (AWp.cnd h (by kernel_rfl) ?_ ?_) <;> clear h <;> intro h
          ·exact AWp.skip (AE.tn_ ⟨(decide (op = 14)), by kernel_rfl, h⟩)
          ·refine AWp.rg tt_ok [] (by kernel_rfl) all_nil ?_
           exact AE.tn_ ⟨(decide (op = 15)), by kernel_rfl, h⟩
     ·clear h
      rintro st' ⟨v1, hr', h⟩
      refine AWp.drop _ _ _ hr' (by kernel_rfl) ?_
      clear hr' st'
      unfold F_af0_j2 at h
      refine AWp.cnd h (by kernel_rfl) ?_ ?_ <;> clear h <;> intro h
      ·refine AWp.seq (AWp.rg tt_ok [] (by kernel_rfl) all_nil ?_)
       refine AE.tn_ (AWp.ret ?_)
       obtain rfl := Option.some.inj h
       exact AE.br_ (AE.tr_ (post_ret (by kernel_rfl)))
      ·refine AWp.seq (AWp.rg tt_ok [] (by kernel_rfl) all_nil ?_)
       refine AE.tn_ (AWp.cnd h (by kernel_rfl) ?_ ?_) <;> clear h <;> intro h
       ·refine AWp.seq (AWp.rg tt_ok [] (by kernel_rfl) all_nil ?_)
        refine AE.tn_ (AWp.ret ?_)
        obtain rfl := Option.some.inj h
        exact AE.br_ (AE.tr_ (post_ret (by kernel_rfl)))
       ·refine AWp.cut (fun st' => ∃ (v2 : Bool), restr [3, 19] [] 0 st'.env st'.H st'.nxt = some ⟨[(3, ⟨.v (.int .i64 op), none⟩), (19, ⟨.v (.bool v2), none⟩)], [], 0⟩ ∧ F_af0_j3 n op v2 = some r) ?_ ?_
        ·refine AWp.seq (AWp.rg tt_ok [] (by kernel_rfl) all_nil ?_)
         refine AE.tn_ (AWp.cnd h (by kernel_rfl) ?_ ?_) <;> clear h <;> intro h
         ·exact AWp.skip (AE.tn_ ⟨(decide (op = 4)), by kernel_rfl, h⟩)
         ·refine AWp.rg tt_ok [] (by kernel_rfl) all_nil ?_
          exact AE.tn_ ⟨(decide (op = 5)), by kernel_rfl, h⟩
        ·clear h
         rintro st' ⟨v2, hr', h⟩
         refine AWp.drop _ _ _ hr' (by kernel_rfl) ?_
         clear hr' st'
         unfold F_af0_j3 at h
         refine AWp.cnd h (by kernel_rfl) ?_ ?_ <;> clear h <;> intro h
         ·refine AWp.seq (AWp.rg tt_ok [] (by kernel_rfl) all_nil ?_)
          refine AE.tn_ (AWp.ret ?_)
          obtain rfl := Option.some.inj h
          exact AE.br_ (AE.tr_ (post_ret (by kernel_rfl)))
         ·refine AWp.cut (fun st' => ∃ (v3 : Bool), restr [3, 22] [] 0 st'.env st'.H st'.nxt = some ⟨[(3, ⟨.v (.int .i64 op), none⟩), (22, ⟨.v (.bool v3), none⟩)], [], 0⟩ ∧ F_af0_j4 n op v3 = some r) ?_ ?_
          ·refine AWp.seq (AWp.rg tt_ok [] (by kernel_rfl) all_nil ?_)
           refine AE.tn_ (AWp.cnd h (by kernel_rfl) ?_ ?_) <;> clear h <;> intro h
           ·exact AWp.skip (AE.tn_ ⟨(decide (op = 6)), by kernel_rfl, h⟩)
           ·refine AWp.seq (AWp.rg tt_ok [] (by kernel_rfl) all_nil ?_)
            refine AE.tn_ (AWp.cnd h (by kernel_rfl) ?_ ?_) <;> clear h <;> intro h
            ·exact AWp.skip (AE.tn_ ⟨(decide (op = 7)), by kernel_rfl, h⟩)
            ·refine AWp.rg tt_ok [] (by kernel_rfl) all_nil ?_
             exact AE.tn_ ⟨(decide (op = 8)), by kernel_rfl, h⟩
          ·clear h
           rintro st' ⟨v3, hr', h⟩
           refine AWp.drop _ _ _ hr' (by kernel_rfl) ?_
           clear hr' st'
           unfold F_af0_j4 at h
           refine AWp.cnd h (by kernel_rfl) ?_ ?_ <;> clear h <;> intro h
           ·refine AWp.seq (AWp.rg tt_ok [] (by kernel_rfl) all_nil ?_)
            refine AE.tn_ (AWp.ret ?_)
            obtain rfl := Option.some.inj h
            exact AE.br_ (AE.tr_ (post_ret (by kernel_rfl)))
           ·refine AWp.seq (AWp.rg tt_ok [] (by kernel_rfl) all_nil ?_)
            refine AE.tn_ (AWp.cnd h (by kernel_rfl) ?_ ?_) <;> clear h <;> intro h
            ·refine AWp.seq (AWp.rg tt_ok [] (by kernel_rfl) all_nil ?_)
             refine AE.tn_ (AWp.ret ?_)
             obtain rfl := Option.some.inj h
             exact AE.br_ (AE.tr_ (post_ret (by kernel_rfl)))
            ·exact AWp.skip (AE.bn_ (AE.tn_ ⟨by kernel_rfl, h⟩))
 ·clear h
  rintro st' ⟨hr', h⟩
  refine AWp.drop _ _ _ hr' (by kernel_rfl) ?_
  clear hr' st'
  unfold F_af0_j1 at h
  refine AWp.seq (AWp.rg tt_ok [] (by kernel_rfl) all_nil ?_)
  refine AE.tn_ (AWp.ret ?_)
  obtain rfl := Option.some.inj h
  exact post_ret (by kernel_rfl)
theorem c_di0 (n : Nat) (op : Int) (r : (List UInt8)) (h : F_di0 n op = some r) : saysOf Tryz.prog 102 [.v (.int .i64 op)] [] [] (.ret (.v (.str r)) none) [] := by
 refine sw_ tt_ok Tryz.func102 rfl rfl rfl ?_
 unfold F_di0 at h
 refine AWp.seq (AWp.rg tt_ok [] (by kernel_rfl) all_nil ?_)
 refine AE.tn_ (AWp.seq (AWp.seq (AWp.rg tt_ok [] (by kernel_rfl) all_nil ?_)))
 refine AE.tn_ (AWp.block (AWp.seq (AWp.rg tt_ok [] (by kernel_rfl) all_nil ?_)))
 refine AE.tn_ (AWp.cnd h (by kernel_rfl) ?_ ?_) <;> clear h <;> intro h
 ·refine AWp.seq (AWp.rg tt_ok [] (by kernel_rfl) all_nil ?_)
  refine AE.tn_ (AWp.ret ?_)
  obtain rfl := Option.some.inj h
  exact AE.br_ (AE.tr_ (post_ret (by kernel_rfl)))
 ·refine AWp.seq (AWp.rg tt_ok [] (by kernel_rfl) all_nil ?_)
  refine AE.tn_ (AWp.cnd h (by kernel_rfl) ?_ ?_) <;> clear h <;> intro h
  ·refine AWp.seq (AWp.rg tt_ok [] (by kernel_rfl) all_nil ?_)
   refine AE.tn_ (AWp.ret ?_)
   obtain rfl := Option.some.inj h
   exact AE.br_ (AE.tr_ (post_ret (by kernel_rfl)))
  ·refine AWp.seq (AWp.rg tt_ok [] (by kernel_rfl) all_nil ?_)
   refine AE.tn_ (AWp.cnd h (by kernel_rfl) ?_ ?_) <;> clear h <;> intro h
   ·refine AWp.seq (AWp.rg tt_ok [] (by kernel_rfl) all_nil ?_)
    refine AE.tn_ (AWp.ret ?_)
    obtain rfl := Option.some.inj h
    exact AE.br_ (AE.tr_ (post_ret (by kernel_rfl)))
   ·refine AWp.seq (AWp.rg tt_ok [] (by kernel_rfl) all_nil ?_)
    refine AE.tn_ (AWp.cnd h (by kernel_rfl) ?_ ?_) <;> clear h <;> intro h
    ·refine AWp.seq (AWp.rg tt_ok [] (by kernel_rfl) all_nil ?_)
     refine AE.tn_ (AWp.ret ?_)
     obtain rfl := Option.some.inj h
     exact AE.br_ (AE.tr_ (post_ret (by kernel_rfl)))
    ·refine AWp.seq (AWp.rg tt_ok [] (by kernel_rfl) all_nil ?_)
     refine AE.tn_ (AWp.cnd h (by kernel_rfl) ?_ ?_) <;> clear h <;> intro h
     ·refine AWp.seq (AWp.rg tt_ok [] (by kernel_rfl) all_nil ?_)
      refine AE.tn_ (AWp.ret ?_)
      obtain rfl := Option.some.inj h
      exact AE.br_ (AE.tr_ (post_ret (by kernel_rfl)))
     ·refine AWp.seq (AWp.rg tt_ok [] (by kernel_rfl) all_nil ?_)
      refine AE.tn_ (AWp.cnd h (by kernel_rfl) ?_ ?_) <;> clear h <;> intro h
      ·refine AWp.seq (AWp.rg tt_ok [] (by kernel_rfl) all_nil ?_)
       refine AE.tn_ (AWp.ret ?_)
       obtain rfl := Option.some.inj h
       exact AE.br_ (AE.tr_ (post_ret (by kernel_rfl)))
      ·refine AWp.seq (AWp.rg tt_ok [] (by kernel_rfl) all_nil ?_)
       refine AE.tn_ (AWp.cnd h (by kernel_rfl) ?_ ?_) <;> clear h <;> intro h
       ·refine AWp.seq (AWp.rg tt_ok [] (by kernel_rfl) all_nil ?_)
        refine AE.tn_ (AWp.ret ?_)
        obtain rfl := Option.some.inj h
        exact AE.br_ (AE.tr_ (post_ret (by kernel_rfl)))
       ·refine AWp.seq (AWp.rg tt_ok [] (by kernel_rfl) all_nil ?_)
        refine AE.tn_ (AWp.cnd h (by kernel_rfl) ?_ ?_) <;> clear h <;> intro h
        ·refine AWp.seq (AWp.rg tt_ok [] (by kernel_rfl) all_nil ?_)
         refine AE.tn_ (AWp.ret ?_)
         obtain rfl := Option.some.inj h
         exact AE.br_ (AE.tr_ (post_ret (by kernel_rfl)))
        ·refine AWp.seq (AWp.rg tt_ok [] (by kernel_rfl) all_nil ?_)
         refine AE.tn_ (AWp.cnd h (by kernel_rfl) ?_ ?_) <;> clear h <;> intro h
         ·refine AWp.seq (AWp.rg tt_ok [] (by kernel_rfl) all_nil ?_)
          refine AE.tn_ (AWp.ret ?_)
          obtain rfl := Option.some.inj h
          exact AE.br_ (AE.tr_ (post_ret (by kernel_rfl)))
         ·refine AWp.seq (AWp.rg tt_ok [] (by kernel_rfl) all_nil ?_)
          refine AE.tn_ (AWp.cnd h (by kernel_rfl) ?_ ?_) <;> clear h <;> intro h
          ·refine AWp.seq (AWp.rg tt_ok [] (by kernel_rfl) all_nil ?_)
           refine AE.tn_ (AWp.ret ?_)
           obtain rfl := Option.some.inj h
           exact AE.br_ (AE.tr_ (post_ret (by kernel_rfl)))
          ·refine AWp.seq (AWp.rg tt_ok [] (by kernel_rfl) all_nil ?_)
           refine AE.tn_ (AWp.cnd h (by kernel_rfl) ?_ ?_) <;> clear h <;> intro h
           ·refine AWp.seq (AWp.rg tt_ok [] (by kernel_rfl) all_nil ?_)
            refine AE.tn_ (AWp.ret ?_)
            obtain rfl := Option.some.inj h
            exact AE.br_ (AE.tr_ (post_ret (by kernel_rfl)))
           ·refine AWp.seq (AWp.rg tt_ok [] (by kernel_rfl) all_nil ?_)
            refine AE.tn_ (AWp.cnd h (by kernel_rfl) ?_ ?_) <;> clear h <;> intro h
            ·refine AWp.seq (AWp.rg tt_ok [] (by kernel_rfl) all_nil ?_)
             refine AE.tn_ (AWp.ret ?_)
             obtain rfl := Option.some.inj h
             exact AE.br_ (AE.tr_ (post_ret (by kernel_rfl)))
            ·refine AWp.seq (AWp.rg tt_ok [] (by kernel_rfl) all_nil ?_)
             refine AE.tn_ (AWp.cnd h (by kernel_rfl) ?_ ?_) <;> clear h <;> intro h
             ·refine AWp.seq (AWp.rg tt_ok [] (by kernel_rfl) all_nil ?_)
              refine AE.tn_ (AWp.ret ?_)
              obtain rfl := Option.some.inj h
              exact AE.br_ (AE.tr_ (post_ret (by kernel_rfl)))
             ·refine AWp.skip (AE.bn_ (AE.tn_ ?_))
              refine AWp.seq (AWp.rg tt_ok [] (by kernel_rfl) all_nil ?_)
              refine AE.tn_ (AWp.ret ?_)
              obtain rfl := Option.some.inj h
              exact post_ret (by kernel_rfl)
theorem c_dj0 (n : Nat) (op : Int) (r : (List UInt8)) (h : F_dj0 n op = some r) : saysOf Tryz.prog 101 [.v (.int .i64 op)] [] [] (.ret (.v (.str r)) none) [] := by
 refine sw_ tt_ok Tryz.func101 rfl rfl rfl ?_
 unfold F_dj0 at h
 refine AWp.seq (AWp.rg tt_ok [] (by kernel_rfl) all_nil ?_)
 refine AE.tn_ (AWp.seq (AWp.seq (AWp.rg tt_ok [] (by kernel_rfl) all_nil ?_)))
 refine AE.tn_ (AWp.block (AWp.seq (AWp.rg tt_ok [] (by kernel_rfl) all_nil ?_)))
 refine AE.tn_ (AWp.cnd h (by kernel_rfl) ?_ ?_) <;> clear h <;> intro h
 ·refine AWp.seq (AWp.rg tt_ok [] (by kernel_rfl) all_nil ?_)
  refine AE.tn_ (AWp.ret ?_)
  obtain rfl := Option.some.inj h
  exact AE.br_ (AE.tr_ (post_ret (by kernel_rfl)))
 ·refine AWp.seq (AWp.rg tt_ok [] (by kernel_rfl) all_nil ?_)
  refine AE.tn_ (AWp.cnd h (by kernel_rfl) ?_ ?_) <;> clear h <;> intro h
  ·refine AWp.seq (AWp.rg tt_ok [] (by kernel_rfl) all_nil ?_)
   refine AE.tn_ (AWp.ret ?_)
   obtain rfl := Option.some.inj h
   exact AE.br_ (AE.tr_ (post_ret (by kernel_rfl)))
  ·refine AWp.seq (AWp.rg tt_ok [] (by kernel_rfl) all_nil ?_)
   refine AE.tn_ (AWp.cnd h (by kernel_rfl) ?_ ?_) <;> clear h <;> intro h
   ·refine AWp.seq (AWp.rg tt_ok [] (by kernel_rfl) all_nil ?_)
    refine AE.tn_ (AWp.ret ?_)
    obtain rfl := Option.some.inj h
    exact AE.br_ (AE.tr_ (post_ret (by kernel_rfl)))
   ·refine AWp.seq (AWp.rg tt_ok [] (by kernel_rfl) all_nil ?_)
    refine AE.tn_ (AWp.cnd h (by kernel_rfl) ?_ ?_) <;> clear h <;> intro h
    ·refine AWp.seq (AWp.rg tt_ok [] (by kernel_rfl) all_nil ?_)
     refine AE.tn_ (AWp.ret ?_)
     obtain rfl := Option.some.inj h
     exact AE.br_ (AE.tr_ (post_ret (by kernel_rfl)))
    ·refine AWp.seq (AWp.rg tt_ok [] (by kernel_rfl) all_nil ?_)
     refine AE.tn_ (AWp.cnd h (by kernel_rfl) ?_ ?_) <;> clear h <;> intro h
     ·refine AWp.seq (AWp.rg tt_ok [] (by kernel_rfl) all_nil ?_)
      refine AE.tn_ (AWp.ret ?_)
      obtain rfl := Option.some.inj h
      exact AE.br_ (AE.tr_ (post_ret (by kernel_rfl)))
     ·refine AWp.seq (AWp.rg tt_ok [] (by kernel_rfl) all_nil ?_)
      refine AE.tn_ (AWp.cnd h (by kernel_rfl) ?_ ?_) <;> clear h <;> intro h
      ·refine AWp.seq (AWp.rg tt_ok [] (by kernel_rfl) all_nil ?_)
       refine AE.tn_ (AWp.ret ?_)
       obtain rfl := Option.some.inj h
       exact AE.br_ (AE.tr_ (post_ret (by kernel_rfl)))
      ·refine AWp.seq (AWp.rg tt_ok [] (by kernel_rfl) all_nil ?_)
       refine AE.tn_ (AWp.cnd h (by kernel_rfl) ?_ ?_) <;> clear h <;> intro h
       ·refine AWp.seq (AWp.rg tt_ok [] (by kernel_rfl) all_nil ?_)
        refine AE.tn_ (AWp.ret ?_)
        obtain rfl := Option.some.inj h
        exact AE.br_ (AE.tr_ (post_ret (by kernel_rfl)))
       ·refine AWp.seq (AWp.rg tt_ok [] (by kernel_rfl) all_nil ?_)
        refine AE.tn_ (AWp.cnd h (by kernel_rfl) ?_ ?_) <;> clear h <;> intro h
        ·refine AWp.seq (AWp.rg tt_ok [] (by kernel_rfl) all_nil ?_)
         refine AE.tn_ (AWp.ret ?_)
         obtain rfl := Option.some.inj h
         exact AE.br_ (AE.tr_ (post_ret (by kernel_rfl)))
        ·refine AWp.skip (AE.bn_ (AE.tn_ ?_))
         refine AWp.seq (AWp.rg tt_ok [] (by kernel_rfl) all_nil ?_)
         refine AE.tn_ (AWp.ret ?_)
         obtain rfl := Option.some.inj h
         exact post_ret (by kernel_rfl)
theorem cB_printer_text (n : Nat) (f_v0 : Expr → Option (List UInt8)) (f_an0 : Expr → Int → Option (List UInt8)) (i_v0 : ∀ (e : Expr) (r : (List UInt8)), f_v0 e = some r → saysOf Tryz.prog 48 [.v (.agg [.int .i64 e.Op, .int .i64 e.N, .str e.S, encL 4 enc_Expr e.Args])] [] [] (.ret (.v (.str r)) none) []) (i_an0 : ∀ (e : Expr) (least : Int) (r : (List UInt8)), f_an0 e least = some r → saysOf Tryz.prog 100 [.v (.agg [.int .i64 e.Op, .int .i64 e.N, .str e.S, encL 4 enc_Expr e.Args]), .v (.int .i64 least)] [] [] (.ret (.v (.str r)) none) []) (e : Expr) (r : (List UInt8)) (h : B_v0 n f_v0 f_an0 e = some r) : saysOf Tryz.prog 48 [.v (.agg [.int .i64 e.Op, .int .i64 e.N, .str e.S, encL 4 enc_Expr e.Args])] [] [] (.ret (.v (.str r)) none) [] := by
 refine sw_ tt_ok Tryz.func48 rfl rfl rfl ?_
 unfold B_v0 at h
 refine AWp.seq (AWp.rg tt_ok [] (by kernel_rfl) all_nil ?_)
 refine AE.tn_ (AWp.seq ?_)
 obtain ⟨r1, hr1, h⟩ := bind_some h
 have pr1 := c_af0 n e.Op _ hr1
 refine AWp.rg tt_ok [orn pr1 []] (by kernel_rfl) (all_cons pr1 all_nil) ?_
 refine AE.tn_ (AWp.seq (AWp.block (AWp.seq (AWp.rg tt_ok [] (by kernel_rfl) all_nil ?_))))
 refine AE.tn_ (AWp.cnd h (by kernel_rfl) ?_ ?_) <;> clear h <;> intro h
 ·refine AWp.seq ?_
  obtain ⟨r3, hr3, h⟩ := bind_some h
  have pr3 := c_ds0 n e.N _ hr3
  refine AWp.rg tt_ok [orn pr3 []] (by kernel_rfl) (all_cons pr3 all_nil) ?_
  refine AE.tn_ (AWp.ret ?_)
  obtain rfl := Option.some.inj h
  exact AE.br_ (AE.tr_ (post_ret (by kernel_rfl)))
 ·refine AWp.seq (AWp.rg tt_ok [] (by kernel_rfl) all_nil ?_)
  refine AE.tn_ (AWp.cnd h (by kernel_rfl) ?_ ?_) <;> clear h <;> intro h
  ·refine AWp.seq ?_
   obtain ⟨r5, hr5, h⟩ := bind_some h
   have pr5 := c_ak0 n e.S _ hr5
   refine AWp.rg tt_ok [orn pr5 []] (by kernel_rfl) (all_cons pr5 all_nil) ?_
   refine AE.tn_ (AWp.seq (AWp.rg tt_ok [] (by kernel_rfl) all_nil ?_))
   refine AE.tn_ (AWp.ret ?_)
   obtain rfl := Option.some.inj h
   exact AE.br_ (AE.tr_ (post_ret (by kernel_rfl)))
  ·refine AWp.seq (AWp.rg tt_ok [] (by kernel_rfl) all_nil ?_)
   refine AE.tn_ (AWp.cnd h (by kernel_rfl) ?_ ?_) <;> clear h <;> intro h
   ·refine AWp.seq (AWp.rg tt_ok [] (by kernel_rfl) all_nil ?_)
    refine AE.tn_ (AWp.ret ?_)
    obtain rfl := Option.some.inj h
    exact AE.br_ (AE.tr_ (post_ret (by kernel_rfl)))
   ·refine AWp.seq (AWp.rg tt_ok [] (by kernel_rfl) all_nil ?_)
    refine AE.tn_ (AWp.cnd h (by kernel_rfl) ?_ ?_) <;> clear h <;> intro h
    ·refine AWp.seq ?_
     obtain ⟨g8, h⟩ := ass_some h
     obtain ⟨r9, hr9, h⟩ := bind_some h
     have pr9 := i_an0 (e.Args.getD 0 default) r1 _ hr9
     obtain ⟨g10, h⟩ := ass_some h
     refine AWp.rg tt_ok [orv (enc_vimp_Expr (e.Args.getD 0 default)), orn pr9 []] (by kernel_rfl) (all_cons g10 (all_cons pr9 (all_cons (enc_vimp_Expr (e.Args.getD 0 default)) (all_cons g8 all_nil)))) ?_
     refine AE.tn_ (AWp.ret ?_)
     obtain rfl := Option.some.inj h
     exact AE.br_ (AE.tr_ (post_ret (by kernel_rfl)))
    ·refine AWp.seq (AWp.rg tt_ok [] (by kernel_rfl) all_nil ?_)
     refine AE.tn_ (AWp.cnd h (by kernel_rfl) ?_ ?_) <;> clear h <;> intro h
     ·refine AWp.seq ?_
      obtain ⟨g12, h⟩ := ass_some h
      obtain ⟨r13, hr13, h⟩ := bind_some h
      have pr13 := i_an0 (e.Args.getD 0 default) r1 _ hr13
      obtain ⟨g14, h⟩ := ass_some h
      refine AWp.rg tt_ok [orv (enc_vimp_Expr (e.Args.getD 0 default)), orn pr13 []] (by kernel_rfl) (all_cons g14 (all_cons pr13 (all_cons (enc_vimp_Expr (e.Args.getD 0 default)) (all_cons g12 all_nil)))) ?_
      refine AE.tn_ (AWp.ret ?_)
      obtain rfl := Option.some.inj h
      exact AE.br_ (AE.tr_ (post_ret (by kernel_rfl)))
     ·refine AWp.seq (AWp.rg tt_ok [] (by kernel_rfl) all_nil ?_)
      refine AE.tn_ (AWp.cnd h (by kernel_rfl) ?_ ?_) <;> clear h <;> intro h
      ·refine AWp.seq ?_
       obtain ⟨r16, hr16, h⟩ := bind_some h
       have pr16 := c_dj0 n e.Op _ hr16
       obtain ⟨g17, h⟩ := ass_some h
       refine AWp.rg tt_ok [orn pr16 []] (by kernel_rfl) (all_cons g17 (all_cons pr16 all_nil)) ?_
       refine AE.tn_ (AWp.ret ?_)
       obtain rfl := Option.some.inj h
       exact AE.br_ (AE.tr_ (post_ret (by kernel_rfl)))
      ·refine AWp.seq (AWp.rg tt_ok [] (by kernel_rfl) all_nil ?_)
       refine AE.tn_ (AWp.cnd h (by kernel_rfl) ?_ ?_) <;> clear h <;> intro h
       ·refine AWp.seq ?_
        obtain ⟨r19, hr19, h⟩ := bind_some h
        have pr19 := c_dj0 n e.Op _ hr19
        obtain ⟨g20, h⟩ := ass_some h
        obtain ⟨g21, h⟩ := ass_some h
        obtain ⟨r22, hr22, h⟩ := bind_some h
        have pr22 := i_v0 (e.Args.getD 0 default) _ hr22
        obtain ⟨g23, h⟩ := ass_some h
        obtain ⟨g24, h⟩ := ass_some h
        refine AWp.rgD tt_ok mo_ok [(2, [orn pr19 []]), (6, [orv (enc_vimp_Expr (e.Args.getD 0 default))]), (8, [orn pr22 []])] (by kernel_rfl) (all_cons g24 (all_cons g23 (all_cons pr22 (all_cons (enc_vimp_Expr (e.Args.getD 0 default)) (all_cons g21 (all_cons g20 (all_cons pr19 all_nil))))))) ?_
        refine AE.tn_ (AWp.ret ?_)
        obtain rfl := Option.some.inj h
        exact AE.br_ (AE.tr_ (post_ret (by kernel_rfl)))
       ·refine AWp.seq (AWp.rg tt_ok [] (by kernel_rfl) all_nil ?_)
        refine AE.tn_ (AWp.cnd h (by kernel_rfl) ?_ ?_) <;> clear h <;> intro h
        ·refine AWp.seq ?_
         obtain ⟨g26, h⟩ := ass_some h
         obtain ⟨r27, hr27, h⟩ := bind_some h
         have pr27 := i_an0 (e.Args.getD 0 default) 5 _ hr27
         obtain ⟨g28, h⟩ := ass_some h
         obtain ⟨r29, hr29, h⟩ := bind_some h
         have pr29 := c_di0 n e.Op _ hr29
         obtain ⟨g30, h⟩ := ass_some h
         obtain ⟨g31, h⟩ := ass_some h
         obtain ⟨g32, h⟩ := ass_some h
         obtain ⟨r33, hr33, h⟩ := bind_some h
         have pr33 := i_an0 (e.Args.getD 1 default) 5 _ hr33
         obtain ⟨g34, h⟩ := ass_some h
         refine AWp.rgD tt_ok mo_ok [(2, [orv (enc_vimp_Expr (e.Args.getD 0 default))]), (4, [orn pr27 []]), (8, [orn pr29 []]), (13, [orv (enc_vimp_Expr (e.Args.getD 1 default))]), (15, [orn pr33 []])] (by kernel_rfl) (all_cons g34 (all_cons pr33 (all_cons (enc_vimp_Expr (e.Args.getD 1 default)) (all_cons g32 (all_cons g31 (all_cons g30 (all_cons pr29 (all_cons g28 (all_cons pr27 (all_cons (enc_vimp_Expr (e.Args.getD 0 default)) (all_cons g26 all_nil))))))))))) ?_
         refine AE.tn_ (AWp.ret ?_)
         obtain rfl := Option.some.inj h
         exact AE.br_ (AE.tr_ (post_ret (by kernel_rfl)))
        ·refine AWp.skip (AE.bn_ (AE.tn_ ?_))
         refine AWp.seq ?_
         obtain ⟨g35, h⟩ := ass_some h
         obtain ⟨r36, hr36, h⟩ := bind_some h
         have pr36 := i_an0 (e.Args.getD 0 default) r1 _ hr36
         obtain ⟨g37, h⟩ := ass_some h
         obtain ⟨r38, hr38, h⟩ := bind_some h
         have pr38 := c_di0 n e.Op _ hr38
         obtain ⟨g39, h⟩ := ass_some h
         obtain ⟨g40, h⟩ := ass_some h
         obtain ⟨g41, h⟩ := ass_some h
         obtain ⟨r42, hr42, h⟩ := bind_some h
         have pr42 := i_an0 (e.Args.getD 1 default) (IntKind.i64.wrap (r1 + 1)) _ hr42
         obtain ⟨g43, h⟩ := ass_some h
         refine AWp.rgD tt_ok mo_ok [(2, [orv (enc_vimp_Expr (e.Args.getD 0 default))]), (5, [orn pr36 []]), (9, [orn pr38 []]), (14, [orv (enc_vimp_Expr (e.Args.getD 1 default))]), (18, [orn pr42 []])] (by kernel_rfl) (all_cons g43 (all_cons pr42 (all_cons (enc_vimp_Expr (e.Args.getD 1 default)) (all_cons g41 (all_cons g40 (all_cons g39 (all_cons pr38 (all_cons g37 (all_cons pr36 (all_cons (enc_vimp_Expr (e.Args.getD 0 default)) (all_cons g35 all_nil))))))))))) ?_
         refine AE.tn_ (AWp.ret ?_)
         obtain rfl := Option.some.inj h
         exact post_ret (by kernel_rfl)
theorem cB_printer_at (n : Nat) (f_v0 : Expr → Option (List UInt8)) (f_an0 : Expr → Int → Option (List UInt8)) (i_v0 : ∀ (e : Expr) (r : (List UInt8)), f_v0 e = some r → saysOf Tryz.prog 48 [.v (.agg [.int .i64 e.Op, .int .i64 e.N, .str e.S, encL 4 enc_Expr e.Args])] [] [] (.ret (.v (.str r)) none) []) (i_an0 : ∀ (e : Expr) (least : Int) (r : (List UInt8)), f_an0 e least = some r → saysOf Tryz.prog 100 [.v (.agg [.int .i64 e.Op, .int .i64 e.N, .str e.S, encL 4 enc_Expr e.Args]), .v (.int .i64 least)] [] [] (.ret (.v (.str r)) none) []) (e : Expr) (least : Int) (r : (List UInt8)) (h : B_an0 n f_v0 f_an0 e least = some r) : saysOf Tryz.prog 100 [.v (.agg [.int .i64 e.Op, .int .i64 e.N, .str e.S, encL 4 enc_Expr e.Args]), .v (.int .i64 least)] [] [] (.ret (.v (.str r)) none) [] := by
 refine sw_ tt_ok Tryz.func100 rfl rfl rfl ?_
 unfold B_an0 at h
 refine AWp.seq (AWp.rg tt_ok [] (by kernel_rfl) all_nil ?_)
 refine AE.tn_ (AWp.seq (AWp.seq ?_))
 obtain ⟨r1, hr1, h⟩ := bind_some h
 have pr1 := c_af0 n e.Op _ hr1
 refine AWp.rg tt_ok [orn pr1 []] (by kernel_rfl) (all_cons pr1 all_nil) ?_
 refine AE.tn_ (AWp.cnd h (by kernel_rfl) ?_ ?_) <;> clear h <;> intro h
 ·refine AWp.seq ?_
  obtain ⟨r3, hr3, h⟩ := bind_some h
  have pr3 := i_v0 e _ hr3
  obtain ⟨g4, h⟩ := ass_some h
  obtain ⟨g5, h⟩ := ass_some h
  refine AWp.rg tt_ok [orn pr3 []] (by kernel_rfl) (all_cons g5 (all_cons g4 (all_cons pr3 all_nil))) ?_
  refine AE.tn_ (AWp.ret ?_)
  obtain rfl := Option.some.inj h
  exact AE.tr_ (post_ret (by kernel_rfl))
 ·refine AWp.skip (AE.tn_ (AWp.seq ?_))
  obtain ⟨r6, hr6, h⟩ := bind_some h
  have pr6 := i_v0 e _ hr6
  refine AWp.rg tt_ok [orn pr6 []] (by kernel_rfl) (all_cons pr6 all_nil) ?_
  refine AE.tn_ (AWp.ret ?_)
  obtain rfl := Option.some.inj h
  exact post_ret (by kernel_rfl)
theorem cS_v0 (n : Nat) : (∀ (e : Expr) (r : (List UInt8)), F_v0 n e = some r → saysOf Tryz.prog 48 [.v (.agg [.int .i64 e.Op, .int .i64 e.N, .str e.S, encL 4 enc_Expr e.Args])] [] [] (.ret (.v (.str r)) none) []) ∧ (∀ (e : Expr) (least : Int) (r : (List UInt8)), F_an0 n e least = some r → saysOf Tryz.prog 100 [.v (.agg [.int .i64 e.Op, .int .i64 e.N, .str e.S, encL 4 enc_Expr e.Args]), .v (.int .i64 least)] [] [] (.ret (.v (.str r)) none) []) := by
 induction n with
 | zero => exact ⟨fun e r h => (by have h2 : (none : Option _) = some r := h; cases h2), fun e least r h => (by have h2 : (none : Option _) = some r := h; cases h2)⟩
 | succ m ih => exact ⟨fun e r h => cB_printer_text m (F_v0 m) (F_an0 m) ih.1 ih.2 e r h, fun e least r h => cB_printer_at m (F_v0 m) (F_an0 m) ih.1 ih.2 e least r h⟩
theorem c_v0 (n : Nat) (e : Expr) (r : (List UInt8)) (h : F_v0 n e = some r) : saysOf Tryz.prog 48 [.v (.agg [.int .i64 e.Op, .int .i64 e.N, .str e.S, encL 4 enc_Expr e.Args])] [] [] (.ret (.v (.str r)) none) [] := (cS_v0 n).1 e r h
theorem cB_ref08_countExpr (n : Nat) (f_p0 : Expr → Int → Option Int) (i_p0 : ∀ (e : Expr) (most : Int) (r : Int), f_p0 e most = some r → saysOf Tryz.prog 46 [.v (.agg [.int .i64 e.Op, .int .i64 e.N, .str e.S, encL 4 enc_Expr e.Args]), .v (.int .i64 most)] [] [] (.ret (.v (.int .i64 r)) none) []) (e : Expr) (most : Int) (r : Int) (h : B_p0 n f_p0 e most = some r) : saysOf Tryz.prog 46 [.v (.agg [.int .i64 e.Op, .int .i64 e.N, .str e.S, encL 4 enc_Expr e.Args]), .v (.int .i64 most)] [] [] (.ret (.v (.int .i64 r)) none) [] := by
 refine sw_ tt_ok Tryz.func46 rfl rfl rfl ?_
 unfold B_p0 at h
 refine AWp.seq (AWp.rg tt_ok [] (by kernel_rfl) all_nil ?_)
 refine AE.tn_ (AWp.seq (AWp.rg tt_ok [] (by kernel_rfl) (all_cons (rfl : nzB 64 = true) all_nil) ?_))
 refine AE.tn_ (AWp.cut (fun st' => ∃ (v11 : Int), restr [5] [] 0 st'.env st'.H st'.nxt = some ⟨[(5, ⟨.v (.int .i64 v11), none⟩)], [], 0⟩ ∧ F_p0_j1 n f_p0 v11 = some r) ?_ ?_)
 ·refine AWp.seq (AWp.rg tt_ok [] (by kernel_rfl) all_nil ?_)
  refine AE.tn_ (AWp.block (AWp.loop (σ := Int × Int) (fun zm zs zst => restr [1, 2, 5, 6] [0] 1 zst.env zst.H zst.nxt = some ⟨[(1, ⟨.v (.int .i64 most), none⟩), (2, ⟨.ptr 0 0, none⟩), (5, ⟨.v (.int .i64 zs.1), none⟩), (6, ⟨.v (.int .i64 zs.2), none⟩)], [(0, [⟨.v (.int .i64 e.Op), none⟩, ⟨.v (.int .i64 e.N), none⟩, ⟨.v (.str e.S), none⟩, ⟨.v (encL 4 enc_Expr e.Args), none⟩])], 1⟩ ∧ F_p0_l2 n f_p0 most e zm zs.1 zs.2 = some r) ?_ (n := n) (s := ((IntKind.i64.wrap (1 + (IntKind.i64.wrap (Int.tdiv ((e.S.length : Nat) : Int) 64)))), 0)) ⟨by kernel_rfl, h⟩))
  clear h
  rintro m2 ⟨v5, v6⟩ st' ⟨hr', h⟩
  cases m2 with
  | zero =>
   have h2 : (none : Option _) = some r := h
   cases h2
  | succ m2 =>
   refine ⟨m2, rfl, AWp.drop _ _ _ hr' (by kernel_rfl) ?_⟩
   clear hr' st'
   replace h : F_p0_b2 n f_p0 most e (F_p0_l2 n f_p0 most e m2) v5 v6 = some r := h
   unfold F_p0_b2 at h
   refine AWp.seq (AWp.seq (AWp.rg tt_ok [] (by kernel_rfl) all_nil ?_))
   refine AE.tn_ (AWp.cnd h (by kernel_rfl) ?_ ?_) <;> clear h <;> intro h
   ·refine AWp.skip (AE.tn_ (AWp.seq (AWp.block ?_)))
    obtain ⟨g7, h⟩ := ass_some h
    obtain ⟨r8, hr8, h⟩ := bind_some h
    have pr8 := i_p0 (e.Args.getD (v6).toNat default) (IntKind.i64.wrap (most - v5)) _ hr8
    refine AWp.rg tt_ok [orv (enc_vimp_Expr (e.Args.getD (v6).toNat default)), orn pr8 []] (by kernel_rfl) (all_cons pr8 (all_cons (enc_vimp_Expr (e.Args.getD (v6).toNat default)) (all_cons g7 all_nil))) ?_
    refine AE.bn_ (AE.tn_ ?_)
    refine AWp.rg tt_ok [] (by kernel_rfl) all_nil ?_
    exact AE.tn_ ⟨((IntKind.i64.wrap (v5 + r8)), (IntKind.i64.wrap (v6 + 1))), by kernel_rfl, h⟩
   ·refine AWp.exit ?_
    exact AE.tx_ (AE.tx_ (AE.block_hit (AE.tn_ ⟨v5, by kernel_rfl, h⟩)))
 ·clear h
  rintro st' ⟨v11, hr', h⟩
  refine AWp.drop _ _ _ hr' (by kernel_rfl) ?_
  clear hr' st'
  unfold F_p0_j1 at h
  refine AWp.seq (AWp.rg tt_ok [] (by kernel_rfl) all_nil ?_)
  refine AE.tn_ (AWp.ret ?_)
  obtain rfl := Option.some.inj h
  exact post_ret (by kernel_rfl)
theorem c_p0 (n : Nat) : ∀ (e : Expr) (most : Int) (r : Int), F_p0 n e most = some r → saysOf Tryz.prog 46 [.v (.agg [.int .i64 e.Op, .int .i64 e.N, .str e.S, encL 4 enc_Expr e.Args]), .v (.int .i64 most)] [] [] (.ret (.v (.int .i64 r)) none) [] := by
 induction n with
 | zero => intro e most r h; have h2 : (none : Option _) = some r := h; cases h2
 | succ m ih => intro e most r h; exact cB_ref08_countExpr m (F_p0 m) ih e most r h
theorem c_cx0 (n : Nat) (ty : Int) (r : (List UInt8)) (h : F_cx0 n ty = some r) : saysOf Tryz.prog 57 [.v (.int .i64 ty)] [] [] (.ret (.v (.str r)) none) [] := by
 refine sw_ tt_ok Tryz.func57 rfl rfl rfl ?_
 unfold F_cx0 at h
 refine AWp.seq (AWp.rg tt_ok [] (by kernel_rfl) all_nil ?_)
 refine AE.tn_ (AWp.seq (AWp.seq (AWp.rg tt_ok [] (by kernel_rfl) all_nil ?_)))
 refine AE.tn_ (AWp.block (AWp.seq (AWp.rg tt_ok [] (by kernel_rfl) all_nil ?_)))
 refine AE.tn_ (AWp.cnd h (by kernel_rfl) ?_ ?_) <;> clear h <;> intro h
 ·refine AWp.seq (AWp.rg tt_ok [] (by kernel_rfl) all_nil ?_)
  refine AE.tn_ (AWp.ret ?_)
  obtain rfl := Option.some.inj h
  exact AE.br_ (AE.tr_ (post_ret (by kernel_rfl)))
 ·refine AWp.seq (AWp.rg tt_ok [] (by kernel_rfl) all_nil ?_)
  refine AE.tn_ (AWp.cnd h (by kernel_rfl) ?_ ?_) <;> clear h <;> intro h
  ·refine AWp.seq (AWp.rg tt_ok [] (by kernel_rfl) all_nil ?_)
   refine AE.tn_ (AWp.ret ?_)
   obtain rfl := Option.some.inj h
   exact AE.br_ (AE.tr_ (post_ret (by kernel_rfl)))
  ·refine AWp.skip (AE.bn_ (AE.tn_ ?_))
   refine AWp.seq (AWp.rg tt_ok [] (by kernel_rfl) all_nil ?_)
   refine AE.tn_ (AWp.ret ?_)
   obtain rfl := Option.some.inj h
   exact post_ret (by kernel_rfl)
theorem c_bf0 (n : Nat) (op : Int) (r : (Unit ⊕ Unit ⊕ Unit ⊕ Unit ⊕ Unit ⊕ Unit ⊕ Unit ⊕ Unit)) (h : F_bf0 n op = some r) : saysOf Tryz.prog 112 [.v (.int .i64 op)] [] [] (Sm.on r (fun zy0 => .ret (.fn 147 []) none) (fun zz0 => Sm.on zz0 (fun zy1 => .ret (.fn 148 []) none) (fun zz1 => Sm.on zz1 (fun zy2 => .ret (.fn 149 []) none) (fun zz2 => Sm.on zz2 (fun zy3 => .ret (.fn 150 []) none) (fun zz3 => Sm.on zz3 (fun zy4 => .ret (.fn 151 []) none) (fun zz4 => Sm.on zz4 (fun zy5 => .ret (.fn 152 []) none) (fun zz5 => Sm.on zz5 (fun zy6 => .ret (.fn 153 []) none) (fun zy7 => .ret (.fn 154 []) none)))))))) [] := by
 refine sw_ tt_ok Tryz.func112 rfl rfl rfl ?_
 unfold F_bf0 at h
 refine AWp.seq (AWp.rg tt_ok [] (by kernel_rfl) all_nil ?_)
 refine AE.tn_ (AWp.seq (AWp.seq (AWp.rg tt_ok [] (by kernel_rfl) all_nil ?_)))
 refine AE.tn_ (AWp.block (AWp.seq (AWp.rg tt_ok [] (by kernel_rfl) all_nil ?_)))
 refine AE.tn_ (AWp.cnd h (by kernel_rfl) ?_ ?_) <;> clear h <;> intro h
 ·refine AWp.seq (AWp.rg tt_ok [] (by kernel_rfl) all_nil ?_)
  refine AE.tn_ (AWp.ret ?_)
  obtain rfl := Option.some.inj h
  exact AE.br_ (AE.tr_ (post_ret (by kernel_rfl)))
 ·refine AWp.seq (AWp.rg tt_ok [] (by kernel_rfl) all_nil ?_)
  refine AE.tn_ (AWp.cnd h (by kernel_rfl) ?_ ?_) <;> clear h <;> intro h
  ·refine AWp.seq (AWp.rg tt_ok [] (by kernel_rfl) all_nil ?_)
   refine AE.tn_ (AWp.ret ?_)
   obtain rfl := Option.some.inj h
   exact AE.br_ (AE.tr_ (post_ret (by kernel_rfl)))
  ·refine AWp.seq (AWp.rg tt_ok [] (by kernel_rfl) all_nil ?_)
   refine AE.tn_ (AWp.cnd h (by kernel_rfl) ?_ ?_) <;> clear h <;> intro h
   ·refine AWp.seq (AWp.rg tt_ok [] (by kernel_rfl) all_nil ?_)
    refine AE.tn_ (AWp.ret ?_)
    obtain rfl := Option.some.inj h
    exact AE.br_ (AE.tr_ (post_ret (by kernel_rfl)))
   ·refine AWp.seq (AWp.rg tt_ok [] (by kernel_rfl) all_nil ?_)
    refine AE.tn_ (AWp.cnd h (by kernel_rfl) ?_ ?_) <;> clear h <;> intro h
    ·refine AWp.seq (AWp.rg tt_ok [] (by kernel_rfl) all_nil ?_)
     refine AE.tn_ (AWp.ret ?_)
     obtain rfl := Option.some.inj h
     exact AE.br_ (AE.tr_ (post_ret (by kernel_rfl)))
    ·refine AWp.seq (AWp.rg tt_ok [] (by kernel_rfl) all_nil ?_)
     refine AE.tn_ (AWp.cnd h (by kernel_rfl) ?_ ?_) <;> clear h <;> intro h
     ·refine AWp.seq (AWp.rg tt_ok [] (by kernel_rfl) all_nil ?_)
      refine AE.tn_ (AWp.ret ?_)
      obtain rfl := Option.some.inj h
      exact AE.br_ (AE.tr_ (post_ret (by kernel_rfl)))
     ·refine AWp.seq (AWp.rg tt_ok [] (by kernel_rfl) all_nil ?_)
      refine AE.tn_ (AWp.cnd h (by kernel_rfl) ?_ ?_) <;> clear h <;> intro h
      ·refine AWp.seq (AWp.rg tt_ok [] (by kernel_rfl) all_nil ?_)
       refine AE.tn_ (AWp.ret ?_)
       obtain rfl := Option.some.inj h
       exact AE.br_ (AE.tr_ (post_ret (by kernel_rfl)))
      ·refine AWp.seq (AWp.rg tt_ok [] (by kernel_rfl) all_nil ?_)
       refine AE.tn_ (AWp.cnd h (by kernel_rfl) ?_ ?_) <;> clear h <;> intro h
       ·refine AWp.seq (AWp.rg tt_ok [] (by kernel_rfl) all_nil ?_)
        refine AE.tn_ (AWp.ret ?_)
        obtain rfl := Option.some.inj h
        exact AE.br_ (AE.tr_ (post_ret (by kernel_rfl)))
       ·refine AWp.skip (AE.bn_ (AE.tn_ ?_))
        refine AWp.seq (AWp.rg tt_ok [] (by kernel_rfl) all_nil ?_)
        refine AE.tn_ (AWp.ret ?_)
        obtain rfl := Option.some.inj h
        exact post_ret (by kernel_rfl)
theorem c_dk0 (n : Nat) (n_ : Int) (r : (List UInt8)) (h : F_dk0 n n_ = some r) : saysOf Tryz.prog 69 [.v (.int .i64 n_)] [] [] (.ret (.v (.str r)) none) [] := by
 refine sw_ tt_ok Tryz.func69 rfl rfl rfl ?_
 unfold F_dk0 at h
 refine AWp.seq (AWp.rg tt_ok [] (by kernel_rfl) all_nil ?_)
 refine AE.tn_ (AWp.seq ?_)
 obtain ⟨r1, hr1, h⟩ := bind_some h
 have pr1 := c_dq0 n n_ 10 _ hr1
 refine AWp.rg tt_ok [orn pr1 []] (by kernel_rfl) (all_cons pr1 all_nil) ?_
 refine AE.tn_ (AWp.ret ?_)
 obtain rfl := Option.some.inj h
 exact post_ret (by kernel_rfl)

theorem c_az0 (n : Nat) (b0_1_ : List Int) (b0_2_ : Int) (r : Unit) (h : F_az0 n b0_1_ b0_2_ = some r) : saysOf Tryz.prog 119 [.ptr 0 0] [] [[⟨.sptr 0 0 90, none⟩, ⟨.v (encL 1 e_u8 b0_1_), (some 5)⟩, ⟨.v (.int .i64 b0_2_), none⟩]] (.ret (.tup []) none) [[⟨.sptr 0 0 90, none⟩, ⟨.v (encL 1 e_u8 b0_1_), (some 5)⟩, ⟨.v (.int .i64 b0_2_), none⟩]] := by
 unfold F_az0 at h
 obtain rfl := Option.some.inj h
 exact says_copyCheck Tryz.func119 rfl (by kernel_rfl) copyCheck_used copyCheck_fresh rfl
theorem c_bp0 (n : Nat) (c : Int) (b0_1_ : List Int) (b0_2_ : Int) (r : (List Int)) (h : F_bp0 n c b0_1_ b0_2_ = some r) : saysOf Tryz.prog 67 [.ptr 0 0, .v (.int .u8 c)] [] [[⟨.sptr 0 0 90, none⟩, ⟨.v (encL 1 e_u8 b0_1_), (some 5)⟩, ⟨.v (.int .i64 b0_2_), none⟩]] (.ret (.v (.nili)) none) [[⟨.sptr 0 0 90, none⟩, ⟨.v (encL 1 e_u8 r), (some 5)⟩, ⟨.v (.int .i64 b0_2_), none⟩]] := by
 refine sw_ tt_ok Tryz.func67 rfl rfl rfl ?_
 unfold F_bp0 at h
 refine AWp.seq (AWp.rg tt_ok [] (by kernel_rfl) all_nil ?_)
 refine AE.tn_ (AWp.seq ?_)
 obtain ⟨r1, hr1, h⟩ := bind_some h
 have pr1 := c_az0 n b0_1_ b0_2_ _ hr1
 refine AWp.rg tt_ok [orn pr1 []] (by kernel_rfl) (all_cons pr1 all_nil) ?_
 refine AE.tn_ (AWp.seq ?_)
 obtain ⟨g2, h⟩ := ass_some h
 refine AWp.rg tt_ok [.own, .val (encL 1 e_u8 ([c] : List Int)), .val (encL 1 e_u8 (b0_1_ ++ ([c] : List Int)))] (by kernel_rfl) (all_cons (vimp_app (k := 1) (e := e_u8) b0_1_ ([c] : List Int)) (all_cons g2 (all_cons (vimp_litm (k := 1) (e := e_u8) ([c] : List Int)) all_nil))) ?_
 refine AE.tn_ (AWp.seq (AWp.rg tt_ok [] (by kernel_rfl) all_nil ?_))
 refine AE.tn_ (AWp.ret ?_)
 obtain rfl := Option.some.inj h
 exact post_ret (by kernel_rfl)
theorem c_ba0 (n : Nat) (s : List UInt8) (b0_1_ : List Int) (b0_2_ : Int) (r : Int × (List Int)) (h : F_ba0 n s b0_1_ b0_2_ = some r) : saysOf Tryz.prog 68 [.ptr 0 0, .v (.str s)] [] [[⟨.sptr 0 0 90, none⟩, ⟨.v (encL 1 e_u8 b0_1_), (some 5)⟩, ⟨.v (.int .i64 b0_2_), none⟩]] (.ret (.tup [.v (.int .i64 r.1), .v (.nili)]) none) [[⟨.sptr 0 0 90, none⟩, ⟨.v (encL 1 e_u8 r.2), (some 5)⟩, ⟨.v (.int .i64 b0_2_), none⟩]] := by
 refine sw_ tt_ok Tryz.func68 rfl rfl rfl ?_
 unfold F_ba0 at h
 refine AWp.seq (AWp.rg tt_ok [] (by kernel_rfl) all_nil ?_)
 refine AE.tn_ (AWp.seq ?_)
 obtain ⟨r1, hr1, h⟩ := bind_some h
 have pr1 := c_az0 n b0_1_ b0_2_ _ hr1
 refine AWp.rg tt_ok [orn pr1 []] (by kernel_rfl) (all_cons pr1 all_nil) ?_
 refine AE.tn_ (AWp.seq ?_)
 obtain ⟨g2, h⟩ := ass_some h
 refine AWp.rg tt_ok [.own, .val (encL 1 e_u8 (b0_1_ ++ s.map fun b => (b.toNat : Int)))] (by kernel_rfl) (all_cons (vimp_app_str b0_1_ s) (all_cons g2 all_nil)) ?_
 refine AE.tn_ (AWp.seq (AWp.rg tt_ok [] (by kernel_rfl) all_nil ?_))
 refine AE.tn_ (AWp.ret ?_)
 obtain rfl := Option.some.inj h
 exact post_ret (by kernel_rfl)
theorem c_h0 (n : Nat) (parts : List (List UInt8)) (b0_1_ : List Int) (b0_2_ : Int) (r : (List Int)) (h : F_h0 n parts b0_1_ b0_2_ = some r) : saysOf Tryz.prog 58 [.ptr 0 0, .v (encL 1 e_str parts)] [] [[⟨.sptr 0 0 90, none⟩, ⟨.v (encL 1 e_u8 b0_1_), (some 5)⟩, ⟨.v (.int .i64 b0_2_), none⟩]] (.ret (.tup []) none) [[⟨.sptr 0 0 90, none⟩, ⟨.v (encL 1 e_u8 r), (some 5)⟩, ⟨.v (.int .i64 b0_2_), none⟩]] := by
 refine sw_ tt_ok Tryz.func58 rfl rfl rfl ?_
 unfold F_h0 at h
 refine AWp.cut (fun st' => ∃ (v9 : List Int), restr [0, 1] [0] 1 st'.env st'.H st'.nxt = some ⟨[(0, ⟨.ptr 0 0, none⟩), (1, ⟨.v (encL 1 e_str parts), none⟩)], [(0, [⟨.sptr 0 0 90, none⟩, ⟨.v (encL 1 e_u8 v9), (some 5)⟩, ⟨.v (.int .i64 b0_2_), none⟩])], 1⟩ ∧ F_h0_j1 n parts b0_2_ v9 = some r) ?_ ?_
 ·refine AWp.seq (AWp.rg tt_ok [] (by kernel_rfl) all_nil ?_)
  refine AE.tn_ (AWp.block (AWp.loop (σ := (List Int) × Int) (fun zm zs zst => restr [0, 1, 9, 10] [0] 1 zst.env zst.H zst.nxt = some ⟨[(0, ⟨.ptr 0 0, none⟩), (1, ⟨.v (encL 1 e_str parts), none⟩), (9, ⟨.v (.int .i64 b0_2_), none⟩), (10, ⟨.v (.int .i64 zs.2), none⟩)], [(0, [⟨.sptr 0 0 90, none⟩, ⟨.v (encL 1 e_u8 zs.1), (some 5)⟩, ⟨.v (.int .i64 b0_2_), none⟩])], 1⟩ ∧ F_h0_l4 n parts b0_2_ zm zs.1 zs.2 = some r) ?_ (n := n) (s := (b0_1_, 0)) ⟨by kernel_rfl, h⟩))
  clear h
  rintro m4 ⟨v4, v5⟩ st' ⟨hr', h⟩
  cases m4 with
  | zero =>
   have h2 : (none : Option _) = some r := h
   cases h2
  | succ m4 =>
   refine ⟨m4, rfl, AWp.drop _ _ _ hr' (by kernel_rfl) ?_⟩
   clear hr' st'
   replace h : F_h0_b4 n parts b0_2_ (F_h0_l4 n parts b0_2_ m4) v4 v5 = some r := h
   unfold F_h0_b4 at h
   refine AWp.seq (AWp.rg tt_ok [] (by kernel_rfl) all_nil ?_)
   refine AE.tn_ (AWp.seq (AWp.cnd h (by kernel_rfl) ?_ ?_)) <;> clear h <;> intro h
   ·refine AWp.skip (AE.tn_ (AWp.seq (AWp.block ?_)))
    obtain ⟨r6, hr6, h⟩ := bind_some h
    have pr6 := c_ba0 n ([32, 32, 32, 32] : List UInt8) v4 b0_2_ _ hr6
    refine AWp.rg tt_ok [orc pr6 []] (by kernel_rfl) (all_cons pr6 all_nil) ?_
    refine AE.bn_ (AE.tn_ ?_)
    refine AWp.rg tt_ok [] (by kernel_rfl) all_nil ?_
    exact AE.tn_ ⟨(r6.2, (IntKind.i64.wrap (v5 + 1))), by kernel_rfl, h⟩
   ·refine AWp.exit ?_
    exact AE.tx_ (AE.tx_ (AE.block_hit (AE.tn_ ⟨v4, by kernel_rfl, h⟩)))
 ·clear h
  rintro st' ⟨v9, hr', h⟩
  refine AWp.drop _ _ _ hr' (by kernel_rfl) ?_
  clear hr' st'
  unfold F_h0_j1 at h
  refine AWp.cut (fun st' => ∃ (v20 : List Int), restr [0] [0] 1 st'.env st'.H st'.nxt = some ⟨[(0, ⟨.ptr 0 0, none⟩)], [(0, [⟨.sptr 0 0 90, none⟩, ⟨.v (encL 1 e_u8 v20), (some 5)⟩, ⟨.v (.int .i64 b0_2_), none⟩])], 1⟩ ∧ F_h0_j2 n b0_2_ v20 = some r) ?_ ?_
  ·refine AWp.seq (AWp.rg tt_ok [] (by kernel_rfl) all_nil ?_)
   refine AE.tn_ (AWp.block (AWp.loop (σ := (List Int) × Int) (fun zm zs zst => restr [0, 17, 18, 19] [0] 1 zst.env zst.H zst.nxt = some ⟨[(0, ⟨.ptr 0 0, none⟩), (17, ⟨.v (encL 1 e_str parts), none⟩), (18, ⟨.v (.int .i64 ((parts.length : Nat) : Int)), none⟩), (19, ⟨.v (.int .i64 zs.2), none⟩)], [(0, [⟨.sptr 0 0 90, none⟩, ⟨.v (encL 1 e_u8 zs.1), (some 5)⟩, ⟨.v (.int .i64 b0_2_), none⟩])], 1⟩ ∧ F_h0_l3 n parts b0_2_ zm zs.1 zs.2 = some r) ?_ (n := n) (s := (v9, 0)) ⟨by kernel_rfl, h⟩))
   clear h
   rintro m3 ⟨v14, v15⟩ st' ⟨hr', h⟩
   cases m3 with
   | zero =>
    have h2 : (none : Option _) = some r := h
    cases h2
   | succ m3 =>
    refine ⟨m3, rfl, AWp.drop _ _ _ hr' (by kernel_rfl) ?_⟩
    clear hr' st'
    replace h : F_h0_b3 n parts b0_2_ (F_h0_l3 n parts b0_2_ m3) v14 v15 = some r := h
    unfold F_h0_b3 at h
    refine AWp.seq (AWp.rg tt_ok [] (by kernel_rfl) all_nil ?_)
    refine AE.tn_ (AWp.seq (AWp.cnd h (by kernel_rfl) ?_ ?_)) <;> clear h <;> intro h
    ·refine AWp.skip (AE.tn_ (AWp.seq (AWp.block (AWp.seq ?_))))
     obtain ⟨g16, h⟩ := ass_some h
     refine AWp.rg tt_ok [.raw] (by kernel_rfl) (all_cons g16 all_nil) ?_
     refine AE.tn_ ?_
     obtain ⟨r17, hr17, h⟩ := bind_some h
     have pr17 := c_ba0 n (parts.getD (v15).toNat default) v14 b0_2_ _ hr17
     refine AWp.rg tt_ok [orc pr17 []] (by kernel_rfl) (all_cons pr17 all_nil) ?_
     refine AE.bn_ (AE.tn_ ?_)
     refine AWp.rg tt_ok [] (by kernel_rfl) all_nil ?_
     exact AE.tn_ ⟨(r17.2, (IntKind.i64.wrap (v15 + 1))), by kernel_rfl, h⟩
    ·refine AWp.exit ?_
     exact AE.tx_ (AE.tx_ (AE.block_hit (AE.tn_ ⟨v14, by kernel_rfl, h⟩)))
  ·clear h
   rintro st' ⟨v20, hr', h⟩
   refine AWp.drop _ _ _ hr' (by kernel_rfl) ?_
   clear hr' st'
   unfold F_h0_j2 at h
   obtain ⟨r21, hr21, h⟩ := bind_some h
   have pr21 := c_bp0 n 10 v20 b0_2_ _ hr21
   refine AWp.rg tt_ok [orc pr21 []] (by kernel_rfl) (all_cons pr21 all_nil) ?_
   obtain rfl := Option.some.inj h
   exact post_normal (by kernel_rfl)
theorem c_cu0 (n : Nat) (s : Stmt) (b0_1_ : List Int) (b0_2_ : Int) (r : (List Int)) (h : F_cu0 n s b0_1_ b0_2_ = some r) : saysOf Tryz.prog 154 [.ptr 0 0, .v (.agg [.int .i64 s.Op, .str s.Name, .int .i64 s.Max, .int .i64 s.A.Op, .int .i64 s.A.N, .str s.A.S, encL 4 enc_Expr s.A.Args, .int .i64 s.B.Op, .int .i64 s.B.N, .str s.B.S, encL 4 enc_Expr s.B.Args, encL 13 enc_Stmt s.Body, encL 13 enc_Stmt s.Else])] [] [[⟨.sptr 0 0 90, none⟩, ⟨.v (encL 1 e_u8 b0_1_), (some 5)⟩, ⟨.v (.int .i64 b0_2_), none⟩]] (.ret (.tup []) none) [[⟨.sptr 0 0 90, none⟩, ⟨.v (encL 1 e_u8 r), (some 5)⟩, ⟨.v (.int .i64 b0_2_), none⟩]] := by
 refine sw_ tt_ok Tryz.func154 rfl rfl rfl ?_
 unfold F_cu0 at h
 refine AWp.seq (AWp.rg tt_ok [] (by kernel_rfl) all_nil ?_)
 refine AE.tn_ ?_
 obtain ⟨r1, hr1, h⟩ := bind_some h
 have pr1 := c_dk0 n s.Max _ hr1
 obtain ⟨r2, hr2, h⟩ := bind_some h
 have pr2 := c_h0 n ([([97, 98, 111, 114, 116, 32] : List UInt8), r1, ([59] : List UInt8)] : List (List UInt8)) b0_1_ b0_2_ _ hr2
 refine AWp.rg tt_ok [orn pr1 [], .val (encL 1 e_str ([([97, 98, 111, 114, 116, 32] : List UInt8), r1, ([59] : List UInt8)] : List (List UInt8))), orc pr2 []] (by kernel_rfl) (all_cons pr2 (all_cons (vimp_litm (k := 1) (e := e_str) ([([97, 98, 111, 114, 116, 32] : List UInt8), r1, ([59] : List UInt8)] : List (List UInt8))) (all_cons pr1 all_nil))) ?_
 obtain rfl := Option.some.inj h
 exact post_normal (by kernel_rfl)
theorem c_cq0 (n : Nat) (s : Stmt) (b0_1_ : List Int) (b0_2_ : Int) (r : (List Int)) (h : F_cq0 n s b0_1_ b0_2_ = some r) : saysOf Tryz.prog 148 [.ptr 0 0, .v (.agg [.int .i64 s.Op, .str s.Name, .int .i64 s.Max, .int .i64 s.A.Op, .int .i64 s.A.N, .str s.A.S, encL 4 enc_Expr s.A.Args, .int .i64 s.B.Op, .int .i64 s.B.N, .str s.B.S, encL 4 enc_Expr s.B.Args, encL 13 enc_Stmt s.Body, encL 13 enc_Stmt s.Else])] [] [[⟨.sptr 0 0 90, none⟩, ⟨.v (encL 1 e_u8 b0_1_), (some 5)⟩, ⟨.v (.int .i64 b0_2_), none⟩]] (.ret (.tup []) none) [[⟨.sptr 0 0 90, none⟩, ⟨.v (encL 1 e_u8 r), (some 5)⟩, ⟨.v (.int .i64 b0_2_), none⟩]] := by
 refine sw_ tt_ok Tryz.func148 rfl rfl rfl ?_
 unfold F_cq0 at h
 refine AWp.seq (AWp.rg tt_ok [] (by kernel_rfl) all_nil ?_)
 refine AE.tn_ ?_
 obtain ⟨r1, hr1, h⟩ := bind_some h
 have pr1 := c_v0 n (⟨s.A.Op, s.A.N, s.A.S, s.A.Args⟩ : Expr) _ hr1
 obtain ⟨r2, hr2, h⟩ := bind_some h
 have pr2 := c_h0 n ([s.Name, ([32, 61, 32] : List UInt8), r1, ([59] : List UInt8)] : List (List UInt8)) b0_1_ b0_2_ _ hr2
 refine AWp.rgD tt_ok mo_ok [(5, [orn pr1 []]), (6, [.val (encL 1 e_str ([s.Name, ([32, 61, 32] : List UInt8), r1, ([59] : List UInt8)] : List (List UInt8)))]), (7, [orc pr2 []])] (by kernel_rfl) (all_cons pr2 (all_cons (vimp_litm (k := 1) (e := e_str) ([s.Name, ([32, 61, 32] : List UInt8), r1, ([59] : List UInt8)] : List (List UInt8))) (all_cons pr1 all_nil))) ?_
 obtain rfl := Option.some.inj h
 exact post_normal (by kernel_rfl)
theorem c_ck0 (n : Nat) (s : Stmt) (b0_1_ : List Int) (b0_2_ : Int) (r : (List Int)) (h : F_ck0 n s b0_1_ b0_2_ = some r) : saysOf Tryz.prog 147 [.ptr 0 0, .v (.agg [.int .i64 s.Op, .str s.Name, .int .i64 s.Max, .int .i64 s.A.Op, .int .i64 s.A.N, .str s.A.S, encL 4 enc_Expr s.A.Args, .int .i64 s.B.Op, .int .i64 s.B.N, .str s.B.S, encL 4 enc_Expr s.B.Args, encL 13 enc_Stmt s.Body, encL 13 enc_Stmt s.Else])] [] [[⟨.sptr 0 0 90, none⟩, ⟨.v (encL 1 e_u8 b0_1_), (some 5)⟩, ⟨.v (.int .i64 b0_2_), none⟩]] (.ret (.tup []) none) [[⟨.sptr 0 0 90, none⟩, ⟨.v (encL 1 e_u8 r), (some 5)⟩, ⟨.v (.int .i64 b0_2_), none⟩]] := by
 refine sw_ tt_ok Tryz.func147 rfl rfl rfl ?_
 unfold F_ck0 at h
 refine AWp.seq (AWp.rg tt_ok [] (by kernel_rfl) all_nil ?_)
 refine AE.tn_ ?_
 obtain ⟨r1, hr1, h⟩ := bind_some h
 have pr1 := c_v0 n (⟨s.A.Op, s.A.N, s.A.S, s.A.Args⟩ : Expr) _ hr1
 obtain ⟨r2, hr2, h⟩ := bind_some h
 have pr2 := c_h0 n ([([108, 101, 116, 32] : List UInt8), s.Name, ([32, 61, 32] : List UInt8), r1, ([59] : List UInt8)] : List (List UInt8)) b0_1_ b0_2_ _ hr2
 refine AWp.rgD tt_ok mo_ok [(5, [orn pr1 []]), (6, [.val (encL 1 e_str ([([108, 101, 116, 32] : List UInt8), s.Name, ([32, 61, 32] : List UInt8), r1, ([59] : List UInt8)] : List (List UInt8)))]), (7, [orc pr2 []])] (by kernel_rfl) (all_cons pr2 (all_cons (vimp_litm (k := 1) (e := e_str) ([([108, 101, 116, 32] : List UInt8), s.Name, ([32, 61, 32] : List UInt8), r1, ([59] : List UInt8)] : List (List UInt8))) (all_cons pr1 all_nil))) ?_
 obtain rfl := Option.some.inj h
 exact post_normal (by kernel_rfl)
theorem c_cv0 (n : Nat) (s : Stmt) (b0_1_ : List Int) (b0_2_ : Int) (r : (List Int)) (h : F_cv0 n s b0_1_ b0_2_ = some r) : saysOf Tryz.prog 153 [.ptr 0 0, .v (.agg [.int .i64 s.Op, .str s.Name, .int .i64 s.Max, .int .i64 s.A.Op, .int .i64 s.A.N, .str s.A.S, encL 4 enc_Expr s.A.Args, .int .i64 s.B.Op, .int .i64 s.B.N, .str s.B.S, encL 4 enc_Expr s.B.Args, encL 13 enc_Stmt s.Body, encL 13 enc_Stmt s.Else])] [] [[⟨.sptr 0 0 90, none⟩, ⟨.v (encL 1 e_u8 b0_1_), (some 5)⟩, ⟨.v (.int .i64 b0_2_), none⟩]] (.ret (.tup []) none) [[⟨.sptr 0 0 90, none⟩, ⟨.v (encL 1 e_u8 r), (some 5)⟩, ⟨.v (.int .i64 b0_2_), none⟩]] := by
 refine sw_ tt_ok Tryz.func153 rfl rfl rfl ?_
 unfold F_cv0 at h
 refine AWp.seq (AWp.rg tt_ok [] (by kernel_rfl) all_nil ?_)
 refine AE.tn_ ?_
 obtain ⟨r1, hr1, h⟩ := bind_some h
 have pr1 := c_v0 n (⟨s.A.Op, s.A.N, s.A.S, s.A.Args⟩ : Expr) _ hr1
 obtain ⟨r2, hr2, h⟩ := bind_some h
 have pr2 := c_h0 n ([([101, 109, 105, 116, 32] : List UInt8), r1, ([59] : List UInt8)] : List (List UInt8)) b0_1_ b0_2_ _ hr2
 refine AWp.rg tt_ok [orn pr1 [], .val (encL 1 e_str ([([101, 109, 105, 116, 32] : List UInt8), r1, ([59] : List UInt8)] : List (List UInt8))), orc pr2 []] (by kernel_rfl) (all_cons pr2 (all_cons (vimp_litm (k := 1) (e := e_str) ([([101, 109, 105, 116, 32] : List UInt8), r1, ([59] : List UInt8)] : List (List UInt8))) (all_cons pr1 all_nil))) ?_
 obtain rfl := Option.some.inj h
 exact post_normal (by kernel_rfl)
theorem c_cz0 (n : Nat) (s : Stmt) (b0_1_ : List Int) (b0_2_ : Int) (r : (List Int)) (h : F_cz0 n s b0_1_ b0_2_ = some r) : saysOf Tryz.prog 149 [.ptr 0 0, .v (.agg [.int .i64 s.Op, .str s.Name, .int .i64 s.Max, .int .i64 s.A.Op, .int .i64 s.A.N, .str s.A.S, encL 4 enc_Expr s.A.Args, .int .i64 s.B.Op, .int .i64 s.B.N, .str s.B.S, encL 4 enc_Expr s.B.Args, encL 13 enc_Stmt s.Body, encL 13 enc_Stmt s.Else])] [] [[⟨.sptr 0 0 90, none⟩, ⟨.v (encL 1 e_u8 b0_1_), (some 5)⟩, ⟨.v (.int .i64 b0_2_), none⟩]] (.ret (.tup []) none) [[⟨.sptr 0 0 90, none⟩, ⟨.v (encL 1 e_u8 r), (some 5)⟩, ⟨.v (.int .i64 b0_2_), none⟩]] := by
 refine sw_ tt_ok Tryz.func149 rfl rfl rfl ?_
 unfold F_cz0 at h
 refine AWp.seq (AWp.rg tt_ok [] (by kernel_rfl) all_nil ?_)
 refine AE.tn_ ?_
 obtain ⟨r1, hr1, h⟩ := bind_some h
 have pr1 := c_v0 n (⟨s.A.Op, s.A.N, s.A.S, s.A.Args⟩ : Expr) _ hr1
 obtain ⟨r2, hr2, h⟩ := bind_some h
 have pr2 := c_v0 n (⟨s.B.Op, s.B.N, s.B.S, s.B.Args⟩ : Expr) _ hr2
 obtain ⟨r3, hr3, h⟩ := bind_some h
 have pr3 := c_h0 n ([([112, 117, 116, 32] : List UInt8), r1, ([32, 61, 32] : List UInt8), r2, ([59] : List UInt8)] : List (List UInt8)) b0_1_ b0_2_ _ hr3
 refine AWp.rgD tt_ok mo_ok [(3, [orn pr1 []]), (6, [orn pr2 []]), (7, [.val (encL 1 e_str ([([112, 117, 116, 32] : List UInt8), r1, ([32, 61, 32] : List UInt8), r2, ([59] : List UInt8)] : List (List UInt8)))]), (8, [orc pr3 []])] (by kernel_rfl) (all_cons pr3 (all_cons (vimp_litm (k := 1) (e := e_str) ([([112, 117, 116, 32] : List UInt8), r1, ([32, 61, 32] : List UInt8), r2, ([59] : List UInt8)] : List (List UInt8))) (all_cons pr2 (all_cons pr1 all_nil)))) ?_
 obtain rfl := Option.some.inj h
 exact post_normal (by kernel_rfl)
theorem c_cr0 (n : Nat) (s : Stmt) (b0_1_ : List Int) (b0_2_ : Int) (r : (List Int)) (h : F_cr0 n s b0_1_ b0_2_ = some r) : saysOf Tryz.prog 150 [.ptr 0 0, .v (.agg [.int .i64 s.Op, .str s.Name, .int .i64 s.Max, .int .i64 s.A.Op, .int .i64 s.A.N, .str s.A.S, encL 4 enc_Expr s.A.Args, .int .i64 s.B.Op, .int .i64 s.B.N, .str s.B.S, encL 4 enc_Expr s.B.Args, encL 13 enc_Stmt s.Body, encL 13 enc_Stmt s.Else])] [] [[⟨.sptr 0 0 90, none⟩, ⟨.v (encL 1 e_u8 b0_1_), (some 5)⟩, ⟨.v (.int .i64 b0_2_), none⟩]] (.ret (.tup []) none) [[⟨.sptr 0 0 90, none⟩, ⟨.v (encL 1 e_u8 r), (some 5)⟩, ⟨.v (.int .i64 b0_2_), none⟩]] := by
 refine sw_ tt_ok Tryz.func150 rfl rfl rfl ?_
 unfold F_cr0 at h
 refine AWp.seq (AWp.rg tt_ok [] (by kernel_rfl) all_nil ?_)
 refine AE.tn_ ?_
 obtain ⟨r1, hr1, h⟩ := bind_some h
 have pr1 := c_v0 n (⟨s.A.Op, s.A.N, s.A.S, s.A.Args⟩ : Expr) _ hr1
 obtain ⟨r2, hr2, h⟩ := bind_some h
 have pr2 := c_h0 n ([([100, 101, 108, 101, 116, 101, 32] : List UInt8), r1, ([59] : List UInt8)] : List (List UInt8)) b0_1_ b0_2_ _ hr2
 refine AWp.rg tt_ok [orn pr1 [], .val (encL 1 e_str ([([100, 101, 108, 101, 116, 101, 32] : List UInt8), r1, ([59] : List UInt8)] : List (List UInt8))), orc pr2 []] (by kernel_rfl) (all_cons pr2 (all_cons (vimp_litm (k := 1) (e := e_str) ([([100, 101, 108, 101, 116, 101, 32] : List UInt8), r1, ([59] : List UInt8)] : List (List UInt8))) (all_cons pr1 all_nil))) ?_
 obtain rfl := Option.some.inj h
 exact post_normal (by kernel_rfl)
theorem cB_printer_writer_block (n : Nat) (f_d0 : (List Stmt) → (List Int) → Int → Option ((List Int) × Int)) (f_j0 : Stmt → (List Int) → Int → Option ((List Int) × Int)) (f_o0 : Stmt → (List Int) → Int → Option ((List Int) × Int)) (i_d0 : ∀ (l : List Stmt) (b0_1_ : List Int) (b0_2_ : Int) (r : (List Int) × Int), f_d0 l b0_1_ b0_2_ = some r → saysOf Tryz.prog 59 [.ptr 0 0, .v (encL 13 enc_Stmt l)] [] [[⟨.sptr 0 0 90, none⟩, ⟨.v (encL 1 e_u8 b0_1_), (some 5)⟩, ⟨.v (.int .i64 b0_2_), none⟩]] (.ret (.tup []) none) [[⟨.sptr 0 0 90, none⟩, ⟨.v (encL 1 e_u8 r.1), (some 5)⟩, ⟨.v (.int .i64 r.2), none⟩]]) (i_j0 : ∀ (s : Stmt) (b0_1_ : List Int) (b0_2_ : Int) (r : (List Int) × Int), f_j0 s b0_1_ b0_2_ = some r → saysOf Tryz.prog 151 [.ptr 0 0, .v (.agg [.int .i64 s.Op, .str s.Name, .int .i64 s.Max, .int .i64 s.A.Op, .int .i64 s.A.N, .str s.A.S, encL 4 enc_Expr s.A.Args, .int .i64 s.B.Op, .int .i64 s.B.N, .str s.B.S, encL 4 enc_Expr s.B.Args, encL 13 enc_Stmt s.Body, encL 13 enc_Stmt s.Else])] [] [[⟨.sptr 0 0 90, none⟩, ⟨.v (encL 1 e_u8 b0_1_), (some 5)⟩, ⟨.v (.int .i64 b0_2_), none⟩]] (.ret (.tup []) none) [[⟨.sptr 0 0 90, none⟩, ⟨.v (encL 1 e_u8 r.1), (some 5)⟩, ⟨.v (.int .i64 r.2), none⟩]]) (i_o0 : ∀ (s : Stmt) (b0_1_ : List Int) (b0_2_ : Int) (r : (List Int) × Int), f_o0 s b0_1_ b0_2_ = some r → saysOf Tryz.prog 152 [.ptr 0 0, .v (.agg [.int .i64 s.Op, .str s.Name, .int .i64 s.Max, .int .i64 s.A.Op, .int .i64 s.A.N, .str s.A.S, encL 4 enc_Expr s.A.Args, .int .i64 s.B.Op, .int .i64 s.B.N, .str s.B.S, encL 4 enc_Expr s.B.Args, encL 13 enc_Stmt s.Body, encL 13 enc_Stmt s.Else])] [] [[⟨.sptr 0 0 90, none⟩, ⟨.v (encL 1 e_u8 b0_1_), (some 5)⟩, ⟨.v (.int .i64 b0_2_), none⟩]] (.ret (.tup []) none) [[⟨.sptr 0 0 90, none⟩, ⟨.v (encL 1 e_u8 r.1), (some 5)⟩, ⟨.v (.int .i64 r.2), none⟩]]) (l : List Stmt) (b0_1_ : List Int) (b0_2_ : Int) (r : (List Int) × Int) (h : B_d0 n f_d0 f_j0 f_o0 l b0_1_ b0_2_ = some r) : saysOf Tryz.prog 59 [.ptr 0 0, .v (encL 13 enc_Stmt l)] [] [[⟨.sptr 0 0 90, none⟩, ⟨.v (encL 1 e_u8 b0_1_), (some 5)⟩, ⟨.v (.int .i64 b0_2_), none⟩]] (.ret (.tup []) none) [[⟨.sptr 0 0 90, none⟩, ⟨.v (encL 1 e_u8 r.1), (some 5)⟩, ⟨.v (.int .i64 r.2), none⟩]] := by
 refine sw_ tt_ok Tryz.func59 rfl rfl rfl ?_
 unfold B_d0 at h
 refine AWp.seq (AWp.rg tt_ok [] (by kernel_rfl) all_nil ?_)
 refine AE.tn_ (AWp.cut (fun st' => ∃ (v32 : List Int) (v33 : Int), restr [0] [0] 1 st'.env st'.H st'.nxt = some ⟨[(0, ⟨.ptr 0 0, none⟩)], [(0, [⟨.sptr 0 0 90, none⟩, ⟨.v (encL 1 e_u8 v32), (some 5)⟩, ⟨.v (.int .i64 v33), none⟩])], 1⟩ ∧ F_d0_j1 n f_d0 f_j0 f_o0 v32 v33 = some r) ?_ ?_)
 ·refine AWp.seq (AWp.rg tt_ok [] (by kernel_rfl) all_nil ?_)
  refine AE.tn_ (AWp.block (AWp.loop (σ := (List Int) × Int × Int) (fun zm zs zst => restr [0, 14, 15, 16] [0] 1 zst.env zst.H zst.nxt = some ⟨[(0, ⟨.ptr 0 0, none⟩), (14, ⟨.v (encL 13 enc_Stmt l), none⟩), (15, ⟨.v (.int .i64 ((l.length : Nat) : Int)), none⟩), (16, ⟨.v (.int .i64 zs.2.2), none⟩)], [(0, [⟨.sptr 0 0 90, none⟩, ⟨.v (encL 1 e_u8 zs.1), (some 5)⟩, ⟨.v (.int .i64 zs.2.1), none⟩])], 1⟩ ∧ F_d0_l2 n f_d0 f_j0 f_o0 l zm zs.1 zs.2.1 zs.2.2 = some r) ?_ (n := n) (s := (b0_1_, (IntKind.i64.wrap (b0_2_ + 1)), 0)) ⟨by kernel_rfl, h⟩))
  clear h
  rintro m2 ⟨v15, v16, v17⟩ st' ⟨hr', h⟩
  cases m2 with
  | zero =>
   have h2 : (none : Option _) = some r := h
   cases h2
  | succ m2 =>
   refine ⟨m2, rfl, AWp.drop _ _ _ hr' (by kernel_rfl) ?_⟩
   clear hr' st'
   replace h : F_d0_b2 n f_d0 f_j0 f_o0 l (F_d0_l2 n f_d0 f_j0 f_o0 l m2) v15 v16 v17 = some r := h
   unfold F_d0_b2 at h
   refine AWp.seq (AWp.rg tt_ok [] (by kernel_rfl) all_nil ?_)
   refine AE.tn_ (AWp.seq (AWp.cnd h (by kernel_rfl) ?_ ?_)) <;> clear h <;> intro h
   ·refine AWp.skip (AE.tn_ (AWp.seq (AWp.block (AWp.seq ?_))))
    obtain ⟨g18, h⟩ := ass_some h
    refine AWp.rg tt_ok [orv (enc_vimp_Stmt (l.getD (v17).toNat default))] (by kernel_rfl) (all_cons (enc_vimp_Stmt (l.getD (v17).toNat default)) (all_cons g18 all_nil)) ?_
    refine AE.tn_ (AWp.seq ?_)
    obtain ⟨r19, hr19, h⟩ := bind_some h
    cases r19 with
    | inl y20_0 =>
     replace h := sm_l h
     have pr19 := c_bf0 n ((l.getD (v17).toNat default).Op) _ hr19
     refine AWp.rg tt_ok [orn pr19 []] (by kernel_rfl) (all_cons pr19 all_nil) ?_
     refine AE.tn_ ?_
     obtain ⟨r21, hr21, h⟩ := bind_some h
     have pr21 := c_ck0 n (⟨(l.getD (v17).toNat default).Op, (l.getD (v17).toNat default).Name, (l.getD (v17).toNat default).Max, (⟨((l.getD (v17).toNat default).A).Op, ((l.getD (v17).toNat default).A).N, ((l.getD (v17).toNat default).A).S, ((l.getD (v17).toNat default).A).Args⟩ : Expr), (⟨((l.getD (v17).toNat default).B).Op, ((l.getD (v17).toNat default).B).N, ((l.getD (v17).toNat default).B).S, ((l.getD (v17).toNat default).B).Args⟩ : Expr), (l.getD (v17).toNat default).Body, (l.getD (v17).toNat default).Else⟩ : Stmt) v15 v16 _ hr21
     refine AWp.rg tt_ok [orc pr21 []] (by kernel_rfl) (all_cons pr21 all_nil) ?_
     refine AE.bn_ (AE.tn_ ?_)
     refine AWp.rg tt_ok [] (by kernel_rfl) all_nil ?_
     exact AE.tn_ ⟨(r21, v16, (IntKind.i64.wrap (v17 + 1))), by kernel_rfl, h⟩
    | inr y20_z0 =>
     replace h := sm_r h
     cases y20_z0 with
     | inl y20_1 =>
      replace h := sm_l h
      have pr19 := c_bf0 n ((l.getD (v17).toNat default).Op) _ hr19
      refine AWp.rg tt_ok [orn pr19 []] (by kernel_rfl) (all_cons pr19 all_nil) ?_
      refine AE.tn_ ?_
      obtain ⟨r22, hr22, h⟩ := bind_some h
      have pr22 := c_cq0 n (⟨(l.getD (v17).toNat default).Op, (l.getD (v17).toNat default).Name, (l.getD (v17).toNat default).Max, (⟨((l.getD (v17).toNat default).A).Op, ((l.getD (v17).toNat default).A).N, ((l.getD (v17).toNat default).A).S, ((l.getD (v17).toNat default).A).Args⟩ : Expr), (⟨((l.getD (v17).toNat default).B).Op, ((l.getD (v17).toNat default).B).N, ((l.getD (v17).toNat default).B).S, ((l.getD (v17).toNat default).B).Args⟩ : Expr), (l.getD (v17).toNat default).Body, (l.getD (v17).toNat default).Else⟩ : Stmt) v15 v16 _ hr22
      refine AWp.rg tt_ok [orc pr22 []] (by kernel_rfl) (all_cons pr22 all_nil) ?_
      refine AE.bn_ (AE.tn_ ?_)
      refine AWp.rg tt_ok [] (by kernel_rfl) all_nil ?_
      exact AE.tn_ ⟨(r22, v16, (IntKind.i64.wrap (v17 + 1))), by kernel_rfl, h⟩
     | inr y20_z1 =>
      replace h := sm_r h
      cases y20_z1 with
      | inl y20_2 =>
       replace h := sm_l h
       have pr19 := c_bf0 n ((l.getD (v17).toNat default).Op) _ hr19
       refine AWp.rg tt_ok [orn pr19 []] (by kernel_rfl) (all_cons pr19 all_nil) ?_
       refine AE.tn_ ?_
       obtain ⟨r23, hr23, h⟩ := bind_some h
       have pr23 := c_cz0 n (⟨(l.getD (v17).toNat default).Op, (l.getD (v17).toNat default).Name, (l.getD (v17).toNat default).Max, (⟨((l.getD (v17).toNat default).A).Op, ((l.getD (v17).toNat default).A).N, ((l.getD (v17).toNat default).A).S, ((l.getD (v17).toNat default).A).Args⟩ : Expr), (⟨((l.getD (v17).toNat default).B).Op, ((l.getD (v17).toNat default).B).N, ((l.getD (v17).toNat default).B).S, ((l.getD (v17).toNat default).B).Args⟩ : Expr), (l.getD (v17).toNat default).Body, (l.getD (v17).toNat default).Else⟩ : Stmt) v15 v16 _ hr23
       refine AWp.rg tt_ok [orc pr23 []] (by kernel_rfl) (all_cons pr23 all_nil) ?_
       refine AE.bn_ (AE.tn_ ?_)
       refine AWp.rg tt_ok [] (by kernel_rfl) all_nil ?_
       exact AE.tn_ ⟨(r23, v16, (IntKind.i64.wrap (v17 + 1))), by kernel_rfl, h⟩
      | inr y20_z2 =>
       replace h := sm_r h
       cases y20_z2 with
       | inl y20_3 =>
        replace h := sm_l h
        have pr19 := c_bf0 n ((l.getD (v17).toNat default).Op) _ hr19
        refine AWp.rg tt_ok [orn pr19 []] (by kernel_rfl) (all_cons pr19 all_nil) ?_
        refine AE.tn_ ?_
        obtain ⟨r24, hr24, h⟩ := bind_some h
        have pr24 := c_cr0 n (⟨(l.getD (v17).toNat default).Op, (l.getD (v17).toNat default).Name, (l.getD (v17).toNat default).Max, (⟨((l.getD (v17).toNat default).A).Op, ((l.getD (v17).toNat default).A).N, ((l.getD (v17).toNat default).A).S, ((l.getD (v17).toNat default).A).Args⟩ : Expr), (⟨((l.getD (v17).toNat default).B).Op, ((l.getD (v17).toNat default).B).N, ((l.getD (v17).toNat default).B).S, ((l.getD (v17).toNat default).B).Args⟩ : Expr), (l.getD (v17).toNat default).Body, (l.getD (v17).toNat default).Else⟩ : Stmt) v15 v16 _ hr24
        refine AWp.rg tt_ok [orc pr24 []] (by kernel_rfl) (all_cons pr24 all_nil) ?_
        refine AE.bn_ (AE.tn_ ?_)
        refine AWp.rg tt_ok [] (by kernel_rfl) all_nil ?_
        exact AE.tn_ ⟨(r24, v16, (IntKind.i64.wrap (v17 + 1))), by kernel_rfl, h⟩
       | inr y20_z3 =>
        replace h := sm_r h
        cases y20_z3 with
        | inl y20_4 =>
         replace h := sm_l h
         have pr19 := c_bf0 n ((l.getD (v17).toNat default).Op) _ hr19
         refine AWp.rg tt_ok [orn pr19 []] (by kernel_rfl) (all_cons pr19 all_nil) ?_
         refine AE.tn_ ?_
         obtain ⟨r25, hr25, h⟩ := bind_some h
         have pr25 := i_j0 (⟨(l.getD (v17).toNat default).Op, (l.getD (v17).toNat default).Name, (l.getD (v17).toNat default).Max, (⟨((l.getD (v17).toNat default).A).Op, ((l.getD (v17).toNat default).A).N, ((l.getD (v17).toNat default).A).S, ((l.getD (v17).toNat default).A).Args⟩ : Expr), (⟨((l.getD (v17).toNat default).B).Op, ((l.getD (v17).toNat default).B).N, ((l.getD (v17).toNat default).B).S, ((l.getD (v17).toNat default).B).Args⟩ : Expr), (l.getD (v17).toNat default).Body, (l.getD (v17).toNat default).Else⟩ : Stmt) v15 v16 _ hr25
         refine AWp.rg tt_ok [orc pr25 []] (by kernel_rfl) (all_cons pr25 all_nil) ?_
         refine AE.bn_ (AE.tn_ ?_)
         refine AWp.rg tt_ok [] (by kernel_rfl) all_nil ?_
         exact AE.tn_ ⟨(r25.1, r25.2, (IntKind.i64.wrap (v17 + 1))), by kernel_rfl, h⟩
        | inr y20_z4 =>
         replace h := sm_r h
         cases y20_z4 with
         | inl y20_5 =>
          replace h := sm_l h
          have pr19 := c_bf0 n ((l.getD (v17).toNat default).Op) _ hr19
          refine AWp.rg tt_ok [orn pr19 []] (by kernel_rfl) (all_cons pr19 all_nil) ?_
          refine AE.tn_ ?_
          obtain ⟨r26, hr26, h⟩ := bind_some h
          have pr26 := i_o0 (⟨(l.getD (v17).toNat default).Op, (l.getD (v17).toNat default).Name, (l.getD (v17).toNat default).Max, (⟨((l.getD (v17).toNat default).A).Op, ((l.getD (v17).toNat default).A).N, ((l.getD (v17).toNat default).A).S, ((l.getD (v17).toNat default).A).Args⟩ : Expr), (⟨((l.getD (v17).toNat default).B).Op, ((l.getD (v17).toNat default).B).N, ((l.getD (v17).toNat default).B).S, ((l.getD (v17).toNat default).B).Args⟩ : Expr), (l.getD (v17).toNat default).Body, (l.getD (v17).toNat default).Else⟩ : Stmt) v15 v16 _ hr26
          refine AWp.rg tt_ok [orc pr26 []] (by kernel_rfl) (all_cons pr26 all_nil) ?_
          refine AE.bn_ (AE.tn_ ?_)
          refine AWp.rg tt_ok [] (by kernel_rfl) all_nil ?_
          exact AE.tn_ ⟨(r26.1, r26.2, (IntKind.i64.wrap (v17 + 1))), by kernel_rfl, h⟩
         | inr y20_z5 =>
          replace h := sm_r h
          cases y20_z5 with
          | inl y20_6 =>
           replace h := sm_l h
           have pr19 := c_bf0 n ((l.getD (v17).toNat default).Op) _ hr19
           refine AWp.rg tt_ok [orn pr19 []] (by kernel_rfl) (all_cons pr19 all_nil) ?_
           refine AE.tn_ ?_
           obtain ⟨r27, hr27, h⟩ := bind_some h
           have pr27 := c_cv0 n (⟨(l.getD (v17).toNat default).Op, (l.getD (v17).toNat default).Name, (l.getD (v17).toNat default).Max, (⟨((l.getD (v17).toNat default).A).Op, ((l.getD (v17).toNat default).A).N, ((l.getD (v17).toNat default).A).S, ((l.getD (v17).toNat default).A).Args⟩ : Expr), (⟨((l.getD (v17).toNat default).B).Op, ((l.getD (v17).toNat default).B).N, ((l.getD (v17).toNat default).B).S, ((l.getD (v17).toNat default).B).Args⟩ : Expr), (l.getD (v17).toNat default).Body, (l.getD (v17).toNat default).Else⟩ : Stmt) v15 v16 _ hr27
           refine AWp.rg tt_ok [orc pr27 []] (by kernel_rfl) (all_cons pr27 all_nil) ?_
           refine AE.bn_ (AE.tn_ ?_)
           refine AWp.rg tt_ok [] (by kernel_rfl) all_nil ?_
           exact AE.tn_ ⟨(r27, v16, (IntKind.i64.wrap (v17 + 1))), by kernel_rfl, h⟩
          | inr y20_7 =>
           replace h := sm_r h
           have pr19 := c_bf0 n ((l.getD (v17).toNat default).Op) _ hr19
           refine AWp.rg tt_ok [orn pr19 []] (by kernel_rfl) (all_cons pr19 all_nil) ?_
           refine AE.tn_ ?_
           obtain ⟨r28, hr28, h⟩ := bind_some h
           have pr28 := c_cu0 n (⟨(l.getD (v17).toNat default).Op, (l.getD (v17).toNat default).Name, (l.getD (v17).toNat default).Max, (⟨((l.getD (v17).toNat default).A).Op, ((l.getD (v17).toNat default).A).N, ((l.getD (v17).toNat default).A).S, ((l.getD (v17).toNat default).A).Args⟩ : Expr), (⟨((l.getD (v17).toNat default).B).Op, ((l.getD (v17).toNat default).B).N, ((l.getD (v17).toNat default).B).S, ((l.getD (v17).toNat default).B).Args⟩ : Expr), (l.getD (v17).toNat default).Body, (l.getD (v17).toNat default).Else⟩ : Stmt) v15 v16 _ hr28
           refine AWp.rg tt_ok [orc pr28 []] (by kernel_rfl) (all_cons pr28 all_nil) ?_
           refine AE.bn_ (AE.tn_ ?_)
           refine AWp.rg tt_ok [] (by kernel_rfl) all_nil ?_
           exact AE.tn_ ⟨(r28, v16, (IntKind.i64.wrap (v17 + 1))), by kernel_rfl, h⟩
   ·refine AWp.exit ?_
    exact AE.tx_ (AE.tx_ (AE.block_hit (AE.tn_ ⟨v15, v16, by kernel_rfl, h⟩)))
 ·clear h
  rintro st' ⟨v32, v33, hr', h⟩
  refine AWp.drop _ _ _ hr' (by kernel_rfl) ?_
  clear hr' st'
  unfold F_d0_j1 at h
  refine AWp.rg tt_ok [] (by kernel_rfl) all_nil ?_
  obtain rfl := Option.some.inj h
  exact post_normal (by kernel_rfl)
theorem cB_printer_writer_branch (n : Nat) (f_d0 : (List Stmt) → (List Int) → Int → Option ((List Int) × Int)) (f_j0 : Stmt → (List Int) → Int → Option ((List Int) × Int)) (f_o0 : Stmt → (List Int) → Int → Option ((List Int) × Int)) (i_d0 : ∀ (l : List Stmt) (b0_1_ : List Int) (b0_2_ : Int) (r : (List Int) × Int), f_d0 l b0_1_ b0_2_ = some r → saysOf Tryz.prog 59 [.ptr 0 0, .v (encL 13 enc_Stmt l)] [] [[⟨.sptr 0 0 90, none⟩, ⟨.v (encL 1 e_u8 b0_1_), (some 5)⟩, ⟨.v (.int .i64 b0_2_), none⟩]] (.ret (.tup []) none) [[⟨.sptr 0 0 90, none⟩, ⟨.v (encL 1 e_u8 r.1), (some 5)⟩, ⟨.v (.int .i64 r.2), none⟩]]) (i_j0 : ∀ (s : Stmt) (b0_1_ : List Int) (b0_2_ : Int) (r : (List Int) × Int), f_j0 s b0_1_ b0_2_ = some r → saysOf Tryz.prog 151 [.ptr 0 0, .v (.agg [.int .i64 s.Op, .str s.Name, .int .i64 s.Max, .int .i64 s.A.Op, .int .i64 s.A.N, .str s.A.S, encL 4 enc_Expr s.A.Args, .int .i64 s.B.Op, .int .i64 s.B.N, .str s.B.S, encL 4 enc_Expr s.B.Args, encL 13 enc_Stmt s.Body, encL 13 enc_Stmt s.Else])] [] [[⟨.sptr 0 0 90, none⟩, ⟨.v (encL 1 e_u8 b0_1_), (some 5)⟩, ⟨.v (.int .i64 b0_2_), none⟩]] (.ret (.tup []) none) [[⟨.sptr 0 0 90, none⟩, ⟨.v (encL 1 e_u8 r.1), (some 5)⟩, ⟨.v (.int .i64 r.2), none⟩]]) (i_o0 : ∀ (s : Stmt) (b0_1_ : List Int) (b0_2_ : Int) (r : (List Int) × Int), f_o0 s b0_1_ b0_2_ = some r → saysOf Tryz.prog 152 [.ptr 0 0, .v (.agg [.int .i64 s.Op, .str s.Name, .int .i64 s.Max, .int .i64 s.A.Op, .int .i64 s.A.N, .str s.A.S, encL 4 enc_Expr s.A.Args, .int .i64 s.B.Op, .int .i64 s.B.N, .str s.B.S, encL 4 enc_Expr s.B.Args, encL 13 enc_Stmt s.Body, encL 13 enc_Stmt s.Else])] [] [[⟨.sptr 0 0 90, none⟩, ⟨.v (encL 1 e_u8 b0_1_), (some 5)⟩, ⟨.v (.int .i64 b0_2_), none⟩]] (.ret (.tup []) none) [[⟨.sptr 0 0 90, none⟩, ⟨.v (encL 1 e_u8 r.1), (some 5)⟩, ⟨.v (.int .i64 r.2), none⟩]]) (s : Stmt) (b0_1_ : List Int) (b0_2_ : Int) (r : (List Int) × Int) (h : B_j0 n f_d0 f_j0 f_o0 s b0_1_ b0_2_ = some r) : saysOf Tryz.prog 151 [.ptr 0 0, .v (.agg [.int .i64 s.Op, .str s.Name, .int .i64 s.Max, .int .i64 s.A.Op, .int .i64 s.A.N, .str s.A.S, encL 4 enc_Expr s.A.Args, .int .i64 s.B.Op, .int .i64 s.B.N, .str s.B.S, encL 4 enc_Expr s.B.Args, encL 13 enc_Stmt s.Body, encL 13 enc_Stmt s.Else])] [] [[⟨.sptr 0 0 90, none⟩, ⟨.v (encL 1 e_u8 b0_1_), (some 5)⟩, ⟨.v (.int .i64 b0_2_), none⟩]] (.ret (.tup []) none) [[⟨.sptr 0 0 90, none⟩, ⟨.v (encL 1 e_u8 r.1), (some 5)⟩, ⟨.v (.int .i64 r.2), none⟩]] := by
 refine sw_ tt_ok Tryz.func151 rfl rfl rfl ?_
 unfold B_j0 at h
 refine AWp.seq (AWp.rg tt_ok [] (by kernel_rfl) all_nil ?_)
 refine AE.tn_ (AWp.seq ?_)
 obtain ⟨r1, hr1, h⟩ := bind_some h
 have pr1 := c_v0 n (⟨s.A.Op, s.A.N, s.A.S, s.A.Args⟩ : Expr) _ hr1
 obtain ⟨r2, hr2, h⟩ := bind_some h
 have pr2 := c_h0 n ([([105, 102, 32] : List UInt8), r1, ([32, 123] : List UInt8)] : List (List UInt8)) b0_1_ b0_2_ _ hr2
 refine AWp.rg tt_ok [orn pr1 [], .val (encL 1 e_str ([([105, 102, 32] : List UInt8), r1, ([32, 123] : List UInt8)] : List (List UInt8))), orc pr2 []] (by kernel_rfl) (all_cons pr2 (all_cons (vimp_litm (k := 1) (e := e_str) ([([105, 102, 32] : List UInt8), r1, ([32, 123] : List UInt8)] : List (List UInt8))) (all_cons pr1 all_nil))) ?_
 refine AE.tn_ (AWp.seq ?_)
 obtain ⟨r3, hr3, h⟩ := bind_some h
 have pr3 := i_d0 s.Body r2 b0_2_ _ hr3
 refine AWp.rg tt_ok [orc pr3 []] (by kernel_rfl) (all_cons pr3 all_nil) ?_
 refine AE.tn_ (AWp.cut (fun st' => ∃ (v6 : List Int) (v7 : Int), restr [0] [0] 1 st'.env st'.H st'.nxt = some ⟨[(0, ⟨.ptr 0 0, none⟩)], [(0, [⟨.sptr 0 0 90, none⟩, ⟨.v (encL 1 e_u8 v6), (some 5)⟩, ⟨.v (.int .i64 v7), none⟩])], 1⟩ ∧ F_j0_j1 n f_d0 f_j0 f_o0 v6 v7 = some r) ?_ ?_)
 ·refine AWp.seq (AWp.rg tt_ok [] (by kernel_rfl) all_nil ?_)
  refine AE.tn_ (AWp.cnd h (by kernel_rfl) ?_ ?_) <;> clear h <;> intro h
  ·refine AWp.seq ?_
   obtain ⟨r4, hr4, h⟩ := bind_some h
   have pr4 := c_h0 n ([([125, 32, 101, 108, 115, 101, 32, 123] : List UInt8)] : List (List UInt8)) r3.1 r3.2 _ hr4
   refine AWp.rg tt_ok [.val (encL 1 e_str ([([125, 32, 101, 108, 115, 101, 32, 123] : List UInt8)] : List (List UInt8))), orc pr4 []] (by kernel_rfl) (all_cons pr4 (all_cons (vimp_litm (k := 1) (e := e_str) ([([125, 32, 101, 108, 115, 101, 32, 123] : List UInt8)] : List (List UInt8))) all_nil)) ?_
   refine AE.tn_ ?_
   obtain ⟨r5, hr5, h⟩ := bind_some h
   have pr5 := i_d0 s.Else r4 r3.2 _ hr5
   refine AWp.rg tt_ok [orc pr5 []] (by kernel_rfl) (all_cons pr5 all_nil) ?_
   exact AE.tn_ ⟨r5.1, r5.2, by kernel_rfl, h⟩
  ·exact AWp.skip (AE.tn_ ⟨r3.1, r3.2, by kernel_rfl, h⟩)
 ·clear h
  rintro st' ⟨v6, v7, hr', h⟩
  refine AWp.drop _ _ _ hr' (by kernel_rfl) ?_
  clear hr' st'
  unfold F_j0_j1 at h
  obtain ⟨r8, hr8, h⟩ := bind_some h
  have pr8 := c_h0 n ([([125] : List UInt8)] : List (List UInt8)) v6 v7 _ hr8
  refine AWp.rg tt_ok [.val (encL 1 e_str ([([125] : List UInt8)] : List (List UInt8))), orc pr8 []] (by kernel_rfl) (all_cons pr8 (all_cons (vimp_litm (k := 1) (e := e_str) ([([125] : List UInt8)] : List (List UInt8))) all_nil)) ?_
  obtain rfl := Option.some.inj h
  exact post_normal (by kernel_rfl)
theorem cB_printer_writer_loop (n : Nat) (f_d0 : (List Stmt) → (List Int) → Int → Option ((List Int) × Int)) (f_j0 : Stmt → (List Int) → Int → Option ((List Int) × Int)) (f_o0 : Stmt → (List Int) → Int → Option ((List Int) × Int)) (i_d0 : ∀ (l : List Stmt) (b0_1_ : List Int) (b0_2_ : Int) (r : (List Int) × Int), f_d0 l b0_1_ b0_2_ = some r → saysOf Tryz.prog 59 [.ptr 0 0, .v (encL 13 enc_Stmt l)] [] [[⟨.sptr 0 0 90, none⟩, ⟨.v (encL 1 e_u8 b0_1_), (some 5)⟩, ⟨.v (.int .i64 b0_2_), none⟩]] (.ret (.tup []) none) [[⟨.sptr 0 0 90, none⟩, ⟨.v (encL 1 e_u8 r.1), (some 5)⟩, ⟨.v (.int .i64 r.2), none⟩]]) (i_j0 : ∀ (s : Stmt) (b0_1_ : List Int) (b0_2_ : Int) (r : (List Int) × Int), f_j0 s b0_1_ b0_2_ = some r → saysOf Tryz.prog 151 [.ptr 0 0, .v (.agg [.int .i64 s.Op, .str s.Name, .int .i64 s.Max, .int .i64 s.A.Op, .int .i64 s.A.N, .str s.A.S, encL 4 enc_Expr s.A.Args, .int .i64 s.B.Op, .int .i64 s.B.N, .str s.B.S, encL 4 enc_Expr s.B.Args, encL 13 enc_Stmt s.Body, encL 13 enc_Stmt s.Else])] [] [[⟨.sptr 0 0 90, none⟩, ⟨.v (encL 1 e_u8 b0_1_), (some 5)⟩, ⟨.v (.int .i64 b0_2_), none⟩]] (.ret (.tup []) none) [[⟨.sptr 0 0 90, none⟩, ⟨.v (encL 1 e_u8 r.1), (some 5)⟩, ⟨.v (.int .i64 r.2), none⟩]]) (i_o0 : ∀ (s : Stmt) (b0_1_ : List Int) (b0_2_ : Int) (r : (List Int) × Int), f_o0 s b0_1_ b0_2_ = some r → saysOf Tryz.prog 152 [.ptr 0 0, .v (.agg [.int .i64 s.Op, .str s.Name, .int .i64 s.Max, .int .i64 s.A.Op, .int .i64 s.A.N, .str s.A.S, encL 4 enc_Expr s.A.Args, .int .i64 s.B.Op, .int .i64 s.B.N, .str s.B.S, encL 4 enc_Expr s.B.Args, encL 13 enc_Stmt s.Body, encL 13 enc_Stmt s.Else])] [] [[⟨.sptr 0 0 90, none⟩, ⟨.v (encL 1 e_u8 b0_1_), (some 5)⟩, ⟨.v (.int .i64 b0_2_), none⟩]] (.ret (.tup []) none) [[⟨.sptr 0 0 90, none⟩, ⟨.v (encL 1 e_u8 r.1), (some 5)⟩, ⟨.v (.int .i64 r.2), none⟩]]) (s : Stmt) (b0_1_ : List Int) (b0_2_ : Int) (r : (List Int) × Int) (h : B_o0 n f_d0 f_j0 f_o0 s b0_1_ b0_2_ = some r) : saysOf Tryz.prog 152 [.ptr 0 0, .v (.agg [.int .i64 s.Op, .str s.Name, .int .i64 s.Max, .int .i64 s.A.Op, .int .i64 s.A.N, .str s.A.S, encL 4 enc_Expr s.A.Args, .int .i64 s.B.Op, .int .i64 s.B.N, .str s.B.S, encL 4 enc_Expr s.B.Args, encL 13 enc_Stmt s.Body, encL 13 enc_Stmt s.Else])] [] [[⟨.sptr 0 0 90, none⟩, ⟨.v (encL 1 e_u8 b0_1_), (some 5)⟩, ⟨.v (.int .i64 b0_2_), none⟩]] (.ret (.tup []) none) [[⟨.sptr 0 0 90, none⟩, ⟨.v (encL 1 e_u8 r.1), (some 5)⟩, ⟨.v (.int .i64 r.2), none⟩]] := by
 refine sw_ tt_ok Tryz.func152 rfl rfl rfl ?_
 unfold B_o0 at h
 refine AWp.seq (AWp.rg tt_ok [] (by kernel_rfl) all_nil ?_)
 refine AE.tn_ (AWp.seq ?_)
 obtain ⟨r1, hr1, h⟩ := bind_some h
 have pr1 := c_v0 n (⟨s.A.Op, s.A.N, s.A.S, s.A.Args⟩ : Expr) _ hr1
 obtain ⟨r2, hr2, h⟩ := bind_some h
 have pr2 := c_v0 n (⟨s.B.Op, s.B.N, s.B.S, s.B.Args⟩ : Expr) _ hr2
 obtain ⟨r3, hr3, h⟩ := bind_some h
 have pr3 := c_dk0 n s.Max _ hr3
 obtain ⟨r4, hr4, h⟩ := bind_some h
 have pr4 := c_h0 n ([([102, 111, 114, 32] : List UInt8), s.Name, ([32, 61, 32] : List UInt8), r1, ([32, 116, 111, 32] : List UInt8), r2, ([32, 109, 97, 120, 32] : List UInt8), r3, ([32, 123] : List UInt8)] : List (List UInt8)) b0_1_ b0_2_ _ hr4
 refine AWp.rgD tt_ok mo_ok [(5, [orn pr1 []]), (8, [orn pr2 []]), (11, [orn pr3 []]), (12, [.val (encL 1 e_str ([([102, 111, 114, 32] : List UInt8), s.Name, ([32, 61, 32] : List UInt8), r1, ([32, 116, 111, 32] : List UInt8), r2, ([32, 109, 97, 120, 32] : List UInt8), r3, ([32, 123] : List UInt8)] : List (List UInt8)))]), (13, [orc pr4 []])] (by kernel_rfl) (all_cons pr4 (all_cons (vimp_litm (k := 1) (e := e_str) ([([102, 111, 114, 32] : List UInt8), s.Name, ([32, 61, 32] : List UInt8), r1, ([32, 116, 111, 32] : List UInt8), r2, ([32, 109, 97, 120, 32] : List UInt8), r3, ([32, 123] : List UInt8)] : List (List UInt8))) (all_cons pr3 (all_cons pr2 (all_cons pr1 all_nil))))) ?_
 refine AE.tn_ (AWp.seq ?_)
 obtain ⟨r5, hr5, h⟩ := bind_some h
 have pr5 := i_d0 s.Body r4 b0_2_ _ hr5
 refine AWp.rg tt_ok [orc pr5 []] (by kernel_rfl) (all_cons pr5 all_nil) ?_
 refine AE.tn_ ?_
 obtain ⟨r6, hr6, h⟩ := bind_some h
 have pr6 := c_h0 n ([([125] : List UInt8)] : List (List UInt8)) r5.1 r5.2 _ hr6
 refine AWp.rg tt_ok [.val (encL 1 e_str ([([125] : List UInt8)] : List (List UInt8))), orc pr6 []] (by kernel_rfl) (all_cons pr6 (all_cons (vimp_litm (k := 1) (e := e_str) ([([125] : List UInt8)] : List (List UInt8))) all_nil)) ?_
 obtain rfl := Option.some.inj h
 exact post_normal (by kernel_rfl)
theorem cS_d0 (n : Nat) : (∀ (l : List Stmt) (b0_1_ : List Int) (b0_2_ : Int) (r : (List Int) × Int), F_d0 n l b0_1_ b0_2_ = some r → saysOf Tryz.prog 59 [.ptr 0 0, .v (encL 13 enc_Stmt l)] [] [[⟨.sptr 0 0 90, none⟩, ⟨.v (encL 1 e_u8 b0_1_), (some 5)⟩, ⟨.v (.int .i64 b0_2_), none⟩]] (.ret (.tup []) none) [[⟨.sptr 0 0 90, none⟩, ⟨.v (encL 1 e_u8 r.1), (some 5)⟩, ⟨.v (.int .i64 r.2), none⟩]]) ∧ (∀ (s : Stmt) (b0_1_ : List Int) (b0_2_ : Int) (r : (List Int) × Int), F_j0 n s b0_1_ b0_2_ = some r → saysOf Tryz.prog 151 [.ptr 0 0, .v (.agg [.int .i64 s.Op, .str s.Name, .int .i64 s.Max, .int .i64 s.A.Op, .int .i64 s.A.N, .str s.A.S, encL 4 enc_Expr s.A.Args, .int .i64 s.B.Op, .int .i64 s.B.N, .str s.B.S, encL 4 enc_Expr s.B.Args, encL 13 enc_Stmt s.Body, encL 13 enc_Stmt s.Else])] [] [[⟨.sptr 0 0 90, none⟩, ⟨.v (encL 1 e_u8 b0_1_), (some 5)⟩, ⟨.v (.int .i64 b0_2_), none⟩]] (.ret (.tup []) none) [[⟨.sptr 0 0 90, none⟩, ⟨.v (encL 1 e_u8 r.1), (some 5)⟩, ⟨.v (.int .i64 r.2), none⟩]]) ∧ (∀ (s : Stmt) (b0_1_ : List Int) (b0_2_ : Int) (r : (List Int) × Int), F_o0 n s b0_1_ b0_2_ = some r → saysOf Tryz.prog 152 [.ptr 0 0, .v (.agg [.int .i64 s.Op, .str s.Name, .int .i64 s.Max, .int .i64 s.A.Op, .int .i64 s.A.N, .str s.A.S, encL 4 enc_Expr s.A.Args, .int .i64 s.B.Op, .int .i64 s.B.N, .str s.B.S, encL 4 enc_Expr s.B.Args, encL 13 enc_Stmt s.Body, encL 13 enc_Stmt s.Else])] [] [[⟨.sptr 0 0 90, none⟩, ⟨.v (encL 1 e_u8 b0_1_), (some 5)⟩, ⟨.v (.int .i64 b0_2_), none⟩]] (.ret (.tup []) none) [[⟨.sptr 0 0 90, none⟩, ⟨.v (encL 1 e_u8 r.1), (some 5)⟩, ⟨.v (.int .i64 r.2), none⟩]]) := by
 induction n with
 | zero => exact ⟨fun l b0_1_ b0_2_ r h => (by have h2 : (none : Option _) = some r := h; cases h2), fun s b0_1_ b0_2_ r h => (by have h2 : (none : Option _) = some r := h; cases h2), fun s b0_1_ b0_2_ r h => (by have h2 : (none : Option _) = some r := h; cases h2)⟩
 | succ m ih => exact ⟨fun l b0_1_ b0_2_ r h => cB_printer_writer_block m (F_d0 m) (F_j0 m) (F_o0 m) ih.1 ih.2.1 ih.2.2 l b0_1_ b0_2_ r h, fun s b0_1_ b0_2_ r h => cB_printer_writer_branch m (F_d0 m) (F_j0 m) (F_o0 m) ih.1 ih.2.1 ih.2.2 s b0_1_ b0_2_ r h, fun s b0_1_ b0_2_ r h => cB_printer_writer_loop m (F_d0 m) (F_j0 m) (F_o0 m) ih.1 ih.2.1 ih.2.2 s b0_1_ b0_2_ r h⟩
theorem c_d0 (n : Nat) (l : List Stmt) (b0_1_ : List Int) (b0_2_ : Int) (r : (List Int) × Int) (h : F_d0 n l b0_1_ b0_2_ = some r) : saysOf Tryz.prog 59 [.ptr 0 0, .v (encL 13 enc_Stmt l)] [] [[⟨.sptr 0 0 90, none⟩, ⟨.v (encL 1 e_u8 b0_1_), (some 5)⟩, ⟨.v (.int .i64 b0_2_), none⟩]] (.ret (.tup []) none) [[⟨.sptr 0 0 90, none⟩, ⟨.v (encL 1 e_u8 r.1), (some 5)⟩, ⟨.v (.int .i64 r.2), none⟩]] := (cS_d0 n).1 l b0_1_ b0_2_ r h
theorem c_cm0 (n : Nat) (b0_1_ : List Int) (b0_2_ : Int) (r : (List UInt8) × (List Int)) (h : F_cm0 n b0_1_ b0_2_ = some r) : saysOf Tryz.prog 60 [.ptr 0 0] [] [[⟨.sptr 0 0 90, none⟩, ⟨.v (encL 1 e_u8 b0_1_), (some 5)⟩, ⟨.v (.int .i64 b0_2_), none⟩]] (.ret (.v (.str r.1)) none) [[⟨.sptr 0 0 90, none⟩, ⟨.v (encL 1 e_u8 r.2), none⟩, ⟨.v (.int .i64 b0_2_), none⟩]] := by
 unfold F_cm0 at h
 obtain ⟨g, h⟩ := ass_some h
 obtain rfl := Option.some.inj h
 exact says_builderString (T5 := 5) Tryz.func60 rfl (by kernel_rfl) cellsByte bstr_nil bstr_room bstr_noroom bstr_some (bld_get g) (bld_len g)
end Go.Ab.Y
