/- Each function does what its plain function says. Printed by a program. -/
import Derived.Test.YtenhknjlgfakfaaGreatDoorCtrA
/- Printed by gen.py. -/
namespace Go.Ab.Y
open Go Go.Ab Go.Proofs
set_option linter.unusedVariables false
set_option maxRecDepth 20000
set_option linter.unusedVariables false
theorem cB_parser_parser_stmt (n : Nat) (f_b0 : Int → PPz → Option (Pn (List Stmt) Int)) (f_k0 : Int → PPz → Option (Pn Stmt Int)) (f_m0 : Int → PPz → Option (Pn Stmt Int)) (i_b0 : ∀ (depth : Int) (b0_ : PPz) (r : Pn (List Stmt) Int), f_b0 depth b0_ = some r → saysOf Tryz.prog 89 [.ptr 0 0, .v (.int .i64 depth)] [] [[⟨.v (encL 4 enc_Token b0_.tokens), none⟩, ⟨.v (.int .i64 b0_.at_), none⟩]] (Pn.on r (fun za zb => .ret (.v (encL 13 enc_Stmt za)) (some 79)) (fun zx zb => .pan zx)) (Pn.on r (fun za zb => [[⟨.v (encL 4 enc_Token b0_.tokens), none⟩, ⟨.v (.int .i64 zb), none⟩]]) (fun zx zb => [[⟨.v (encL 4 enc_Token b0_.tokens), none⟩, ⟨.v (.int .i64 zb), none⟩]]))) (i_k0 : ∀ (depth : Int) (b0_ : PPz) (r : Pn Stmt Int), f_k0 depth b0_ = some r → saysOf Tryz.prog 134 [.ptr 0 0, .v (.int .i64 depth)] [] [[⟨.v (encL 4 enc_Token b0_.tokens), none⟩, ⟨.v (.int .i64 b0_.at_), none⟩]] (Pn.on r (fun za zb => .ret (.v (.agg [.int .i64 za.Op, .str za.Name, .int .i64 za.Max, .int .i64 za.A.Op, .int .i64 za.A.N, .str za.A.S, encL 4 enc_Expr za.A.Args, .int .i64 za.B.Op, .int .i64 za.B.N, .str za.B.S, encL 4 enc_Expr za.B.Args, encL 13 enc_Stmt za.Body, encL 13 enc_Stmt za.Else])) none) (fun zx zb => .pan zx)) (Pn.on r (fun za zb => [[⟨.v (encL 4 enc_Token b0_.tokens), none⟩, ⟨.v (.int .i64 zb), none⟩]]) (fun zx zb => [[⟨.v (encL 4 enc_Token b0_.tokens), none⟩, ⟨.v (.int .i64 zb), none⟩]]))) (i_m0 : ∀ (depth : Int) (b0_ : PPz) (r : Pn Stmt Int), f_m0 depth b0_ = some r → saysOf Tryz.prog 165 [.ptr 0 0, .v (.int .i64 depth)] [] [[⟨.v (encL 4 enc_Token b0_.tokens), none⟩, ⟨.v (.int .i64 b0_.at_), none⟩]] (Pn.on r (fun za zb => .ret (.v (.agg [.int .i64 za.Op, .str za.Name, .int .i64 za.Max, .int .i64 za.A.Op, .int .i64 za.A.N, .str za.A.S, encL 4 enc_Expr za.A.Args, .int .i64 za.B.Op, .int .i64 za.B.N, .str za.B.S, encL 4 enc_Expr za.B.Args, encL 13 enc_Stmt za.Body, encL 13 enc_Stmt za.Else])) none) (fun zx zb => .pan zx)) (Pn.on r (fun za zb => [[⟨.v (encL 4 enc_Token b0_.tokens), none⟩, ⟨.v (.int .i64 zb), none⟩]]) (fun zx zb => [[⟨.v (encL 4 enc_Token b0_.tokens), none⟩, ⟨.v (.int .i64 zb), none⟩]]))) (depth : Int) (b0_ : PPz) (r : Pn Stmt Int) (h : B_k0 n f_b0 f_k0 f_m0 depth b0_ = some r) : saysOf Tryz.prog 134 [.ptr 0 0, .v (.int .i64 depth)] [] [[⟨.v (encL 4 enc_Token b0_.tokens), none⟩, ⟨.v (.int .i64 b0_.at_), none⟩]] (Pn.on r (fun za zb => .ret (.v (.agg [.int .i64 za.Op, .str za.Name, .int .i64 za.Max, .int .i64 za.A.Op, .int .i64 za.A.N, .str za.A.S, encL 4 enc_Expr za.A.Args, .int .i64 za.B.Op, .int .i64 za.B.N, .str za.B.S, encL 4 enc_Expr za.B.Args, encL 13 enc_Stmt za.Body, encL 13 enc_Stmt za.Else])) none) (fun zx zb => .pan zx)) (Pn.on r (fun za zb => [[⟨.v (encL 4 enc_Token b0_.tokens), none⟩, ⟨.v (.int .i64 zb), none⟩]]) (fun zx zb => [[⟨.v (encL 4 enc_Token b0_.tokens), none⟩, ⟨.v (.int .i64 zb), none⟩]])) := by
 refine sw_ tt_ok Tryz.func134 rfl rfl rfl ?_
 unfold B_k0 at h
 refine AWp.seq ?_
 refine AWp.rg tt_ok [] (by kernel_rfl) all_nil ?_
 refine AE.tn_ ?_
 refine AWp.seq ?_
 refine AWp.block ?_
 refine AWp.seq ?_
 obtain ⟨r1, hr1, h⟩ := bind_some h
 have pr1 := c_u0 n ([108, 101, 116] : List UInt8) b0_ _ hr1
 refine AWp.rg tt_ok [orc pr1 []] (by kernel_rfl) (all_cons pr1 all_nil) ?_
 refine AE.tn_ ?_
 refine AWp.cnd h (by kernel_rfl) ?_ ?_ <;> clear h <;> intro h
 ·refine AWp.seq ?_
  obtain ⟨r3, hr3, h⟩ := bind_some h
  cases r3 with
  | ret r4 r5 =>
   have pr3 := c_z0 n 1 (⟨b0_.tokens, r1.2⟩ : PPz) _ hr3
   refine AWp.rg tt_ok [orc pr3 []] (by kernel_rfl) (all_cons pr3 all_nil) ?_
   refine AE.tn_ ?_
   refine AWp.seq ?_
   obtain ⟨r7, hr7, h⟩ := bind_some h
   cases r7 with
   | ret r8 r9 =>
    have pr7 := c_j0 n ([61] : List UInt8) (⟨b0_.tokens, r5⟩ : PPz) _ hr7
    refine AWp.rg tt_ok [orc pr7 []] (by kernel_rfl) (all_cons pr7 all_nil) ?_
    refine AE.tn_ ?_
    refine AWp.seq ?_
    obtain ⟨r11, hr11, h⟩ := bind_some h
    cases r11 with
    | ret r12 r13 =>
     have pr11 := c_a0 n 1 0 (⟨b0_.tokens, r9⟩ : PPz) _ hr11
     obtain ⟨r15, hr15, h⟩ := bind_some h
     cases r15 with
     | ret r16 r17 =>
      have pr15 := c_aj0 n (⟨1, r4.Text, 0, r12, (⟨0, 0, ([] : List UInt8), ([] : List Expr)⟩ : Expr), ([] : List Stmt), ([] : List Stmt)⟩ : Stmt) (⟨b0_.tokens, r13⟩ : PPz) _ hr15
      refine AWp.rg tt_ok [orc pr11 [], orc pr15 []] (by kernel_rfl) (all_cons pr15 (all_cons pr11 all_nil)) ?_
      refine AE.tn_ ?_
      refine AWp.ret ?_
      obtain rfl := Option.some.inj h
      exact AE.br_ (AE.tr_ (post_ret (by kernel_rfl)))
     | pan x18 r17 =>
      have pr15 := c_aj0 n (⟨1, r4.Text, 0, r12, (⟨0, 0, ([] : List UInt8), ([] : List Expr)⟩ : Expr), ([] : List Stmt), ([] : List Stmt)⟩ : Stmt) (⟨b0_.tokens, r13⟩ : PPz) _ hr15
      refine AWp.rgP tt_ok [orc pr11 [], orc pr15 []] (x := x18) (by kernel_rfl) (all_cons pr15 (all_cons pr11 all_nil)) ?_
      obtain rfl := Option.some.inj h
      exact AE.then_pan (AE.block_pan (AE.then_pan (post_pan (by kernel_rfl))))
    | pan x14 r13 =>
     have pr11 := c_a0 n 1 0 (⟨b0_.tokens, r9⟩ : PPz) _ hr11
     refine AWp.rgP tt_ok [orc pr11 []] (x := x14) (by kernel_rfl) (all_cons pr11 all_nil) ?_
     obtain rfl := Option.some.inj h
     exact AE.then_pan (AE.block_pan (AE.then_pan (post_pan (by kernel_rfl))))
   | pan x10 r9 =>
    have pr7 := c_j0 n ([61] : List UInt8) (⟨b0_.tokens, r5⟩ : PPz) _ hr7
    refine AWp.rgP tt_ok [orc pr7 []] (x := x10) (by kernel_rfl) (all_cons pr7 all_nil) ?_
    obtain rfl := Option.some.inj h
    exact AE.then_pan (AE.block_pan (AE.then_pan (post_pan (by kernel_rfl))))
  | pan x6 r5 =>
   have pr3 := c_z0 n 1 (⟨b0_.tokens, r1.2⟩ : PPz) _ hr3
   refine AWp.rgP tt_ok [orc pr3 []] (x := x6) (by kernel_rfl) (all_cons pr3 all_nil) ?_
   obtain rfl := Option.some.inj h
   exact AE.then_pan (AE.block_pan (AE.then_pan (post_pan (by kernel_rfl))))
 ·refine AWp.seq ?_
  obtain ⟨r19, hr19, h⟩ := bind_some h
  have pr19 := c_u0 n ([112, 117, 116] : List UInt8) (⟨b0_.tokens, r1.2⟩ : PPz) _ hr19
  refine AWp.rg tt_ok [orc pr19 []] (by kernel_rfl) (all_cons pr19 all_nil) ?_
  refine AE.tn_ ?_
  refine AWp.cnd h (by kernel_rfl) ?_ ?_ <;> clear h <;> intro h
  ·refine AWp.seq ?_
   obtain ⟨r21, hr21, h⟩ := bind_some h
   cases r21 with
   | ret r22 r23 =>
    have pr21 := c_a0 n 1 0 (⟨b0_.tokens, r19.2⟩ : PPz) _ hr21
    refine AWp.rg tt_ok [orc pr21 []] (by kernel_rfl) (all_cons pr21 all_nil) ?_
    refine AE.tn_ ?_
    refine AWp.seq ?_
    obtain ⟨r25, hr25, h⟩ := bind_some h
    cases r25 with
    | ret r26 r27 =>
     have pr25 := c_j0 n ([61] : List UInt8) (⟨b0_.tokens, r23⟩ : PPz) _ hr25
     refine AWp.rg tt_ok [orc pr25 []] (by kernel_rfl) (all_cons pr25 all_nil) ?_
     refine AE.tn_ ?_
     refine AWp.seq ?_
     obtain ⟨r29, hr29, h⟩ := bind_some h
     cases r29 with
     | ret r30 r31 =>
      have pr29 := c_a0 n 1 0 (⟨b0_.tokens, r27⟩ : PPz) _ hr29
      obtain ⟨r33, hr33, h⟩ := bind_some h
      cases r33 with
      | ret r34 r35 =>
       have pr33 := c_aj0 n (⟨3, ([] : List UInt8), 0, r22, r30, ([] : List Stmt), ([] : List Stmt)⟩ : Stmt) (⟨b0_.tokens, r31⟩ : PPz) _ hr33
       refine AWp.rgD tt_ok mo_ok [(3, [orc pr29 []]), (5, [orc pr33 []])] (by kernel_rfl) (all_cons pr33 (all_cons pr29 all_nil)) ?_
       refine AE.tn_ ?_
       refine AWp.ret ?_
       obtain rfl := Option.some.inj h
       exact AE.br_ (AE.tr_ (post_ret (by kernel_rfl)))
      | pan x36 r35 =>
       have pr33 := c_aj0 n (⟨3, ([] : List UInt8), 0, r22, r30, ([] : List Stmt), ([] : List Stmt)⟩ : Stmt) (⟨b0_.tokens, r31⟩ : PPz) _ hr33
       refine AWp.rgDP tt_ok mo_ok 5 [(3, [orc pr29 []]), (5, [orc pr33 []])] (x := x36) (by kernel_rfl) (all_cons pr33 (all_cons pr29 all_nil)) (fun _ => ?_)
       obtain rfl := Option.some.inj h
       exact AE.then_pan (AE.block_pan (AE.then_pan (post_pan (by kernel_rfl))))
     | pan x32 r31 =>
      have pr29 := c_a0 n 1 0 (⟨b0_.tokens, r27⟩ : PPz) _ hr29
      refine AWp.rgDP tt_ok mo_ok 3 [(3, [orc pr29 []])] (x := x32) (by kernel_rfl) (all_cons pr29 all_nil) (fun _ => ?_)
      obtain rfl := Option.some.inj h
      exact AE.then_pan (AE.block_pan (AE.then_pan (post_pan (by kernel_rfl))))
    | pan x28 r27 =>
     have pr25 := c_j0 n ([61] : List UInt8) (⟨b0_.tokens, r23⟩ : PPz) _ hr25
     refine AWp.rgP tt_ok [orc pr25 []] (x := x28) (by kernel_rfl) (all_cons pr25 all_nil) ?_
     obtain rfl := Option.some.inj h
     exact AE.then_pan (AE.block_pan (AE.then_pan (post_pan (by kernel_rfl))))
   | pan x24 r23 =>
    have pr21 := c_a0 n 1 0 (⟨b0_.tokens, r19.2⟩ : PPz) _ hr21
    refine AWp.rgP tt_ok [orc pr21 []] (x := x24) (by kernel_rfl) (all_cons pr21 all_nil) ?_
    obtain rfl := Option.some.inj h
    exact AE.then_pan (AE.block_pan (AE.then_pan (post_pan (by kernel_rfl))))
  ·refine AWp.seq ?_
   obtain ⟨r37, hr37, h⟩ := bind_some h
   have pr37 := c_u0 n ([100, 101, 108, 101, 116, 101] : List UInt8) (⟨b0_.tokens, r19.2⟩ : PPz) _ hr37
   refine AWp.rg tt_ok [orc pr37 []] (by kernel_rfl) (all_cons pr37 all_nil) ?_
   refine AE.tn_ ?_
   refine AWp.cnd h (by kernel_rfl) ?_ ?_ <;> clear h <;> intro h
   ·refine AWp.seq ?_
    obtain ⟨r39, hr39, h⟩ := bind_some h
    cases r39 with
    | ret r40 r41 =>
     have pr39 := c_a0 n 1 0 (⟨b0_.tokens, r37.2⟩ : PPz) _ hr39
     obtain ⟨r43, hr43, h⟩ := bind_some h
     cases r43 with
     | ret r44 r45 =>
      have pr43 := c_aj0 n (⟨4, ([] : List UInt8), 0, r40, (⟨0, 0, ([] : List UInt8), ([] : List Expr)⟩ : Expr), ([] : List Stmt), ([] : List Stmt)⟩ : Stmt) (⟨b0_.tokens, r41⟩ : PPz) _ hr43
      refine AWp.rg tt_ok [orc pr39 [], orc pr43 []] (by kernel_rfl) (all_cons pr43 (all_cons pr39 all_nil)) ?_
      refine AE.tn_ ?_
      refine AWp.ret ?_
      obtain rfl := Option.some.inj h
      exact AE.br_ (AE.tr_ (post_ret (by kernel_rfl)))
     | pan x46 r45 =>
      have pr43 := c_aj0 n (⟨4, ([] : List UInt8), 0, r40, (⟨0, 0, ([] : List UInt8), ([] : List Expr)⟩ : Expr), ([] : List Stmt), ([] : List Stmt)⟩ : Stmt) (⟨b0_.tokens, r41⟩ : PPz) _ hr43
      refine AWp.rgP tt_ok [orc pr39 [], orc pr43 []] (x := x46) (by kernel_rfl) (all_cons pr43 (all_cons pr39 all_nil)) ?_
      obtain rfl := Option.some.inj h
      exact AE.then_pan (AE.block_pan (AE.then_pan (post_pan (by kernel_rfl))))
    | pan x42 r41 =>
     have pr39 := c_a0 n 1 0 (⟨b0_.tokens, r37.2⟩ : PPz) _ hr39
     refine AWp.rgP tt_ok [orc pr39 []] (x := x42) (by kernel_rfl) (all_cons pr39 all_nil) ?_
     obtain rfl := Option.some.inj h
     exact AE.then_pan (AE.block_pan (AE.then_pan (post_pan (by kernel_rfl))))
   ·refine AWp.seq ?_
    obtain ⟨r47, hr47, h⟩ := bind_some h
    have pr47 := c_u0 n ([101, 109, 105, 116] : List UInt8) (⟨b0_.tokens, r37.2⟩ : PPz) _ hr47
    refine AWp.rg tt_ok [orc pr47 []] (by kernel_rfl) (all_cons pr47 all_nil) ?_
    refine AE.tn_ ?_
    refine AWp.cnd h (by kernel_rfl) ?_ ?_ <;> clear h <;> intro h
    ·refine AWp.seq ?_
     obtain ⟨r49, hr49, h⟩ := bind_some h
     cases r49 with
     | ret r50 r51 =>
      have pr49 := c_a0 n 1 0 (⟨b0_.tokens, r47.2⟩ : PPz) _ hr49
      obtain ⟨r53, hr53, h⟩ := bind_some h
      cases r53 with
      | ret r54 r55 =>
       have pr53 := c_aj0 n (⟨7, ([] : List UInt8), 0, r50, (⟨0, 0, ([] : List UInt8), ([] : List Expr)⟩ : Expr), ([] : List Stmt), ([] : List Stmt)⟩ : Stmt) (⟨b0_.tokens, r51⟩ : PPz) _ hr53
       refine AWp.rg tt_ok [orc pr49 [], orc pr53 []] (by kernel_rfl) (all_cons pr53 (all_cons pr49 all_nil)) ?_
       refine AE.tn_ ?_
       refine AWp.ret ?_
       obtain rfl := Option.some.inj h
       exact AE.br_ (AE.tr_ (post_ret (by kernel_rfl)))
      | pan x56 r55 =>
       have pr53 := c_aj0 n (⟨7, ([] : List UInt8), 0, r50, (⟨0, 0, ([] : List UInt8), ([] : List Expr)⟩ : Expr), ([] : List Stmt), ([] : List Stmt)⟩ : Stmt) (⟨b0_.tokens, r51⟩ : PPz) _ hr53
       refine AWp.rgP tt_ok [orc pr49 [], orc pr53 []] (x := x56) (by kernel_rfl) (all_cons pr53 (all_cons pr49 all_nil)) ?_
       obtain rfl := Option.some.inj h
       exact AE.then_pan (AE.block_pan (AE.then_pan (post_pan (by kernel_rfl))))
     | pan x52 r51 =>
      have pr49 := c_a0 n 1 0 (⟨b0_.tokens, r47.2⟩ : PPz) _ hr49
      refine AWp.rgP tt_ok [orc pr49 []] (x := x52) (by kernel_rfl) (all_cons pr49 all_nil) ?_
      obtain rfl := Option.some.inj h
      exact AE.then_pan (AE.block_pan (AE.then_pan (post_pan (by kernel_rfl))))
    ·refine AWp.seq ?_
     obtain ⟨r57, hr57, h⟩ := bind_some h
     have pr57 := c_u0 n ([97, 98, 111, 114, 116] : List UInt8) (⟨b0_.tokens, r47.2⟩ : PPz) _ hr57
     refine AWp.rg tt_ok [orc pr57 []] (by kernel_rfl) (all_cons pr57 all_nil) ?_
     refine AE.tn_ ?_
     refine AWp.cnd h (by kernel_rfl) ?_ ?_ <;> clear h <;> intro h
     ·refine AWp.seq ?_
      obtain ⟨r59, hr59, h⟩ := bind_some h
      cases r59 with
      | ret r60 r61 =>
       have pr59 := c_z0 n 3 (⟨b0_.tokens, r57.2⟩ : PPz) _ hr59
       obtain ⟨r63, hr63, h⟩ := bind_some h
       cases r63 with
       | ret r64 r65 =>
        have pr63 := c_aj0 n (⟨8, ([] : List UInt8), r60.N, (⟨0, 0, ([] : List UInt8), ([] : List Expr)⟩ : Expr), (⟨0, 0, ([] : List UInt8), ([] : List Expr)⟩ : Expr), ([] : List Stmt), ([] : List Stmt)⟩ : Stmt) (⟨b0_.tokens, r61⟩ : PPz) _ hr63
        refine AWp.rg tt_ok [orc pr59 [], orc pr63 []] (by kernel_rfl) (all_cons pr63 (all_cons pr59 all_nil)) ?_
        refine AE.tn_ ?_
        refine AWp.ret ?_
        obtain rfl := Option.some.inj h
        exact AE.br_ (AE.tr_ (post_ret (by kernel_rfl)))
       | pan x66 r65 =>
        have pr63 := c_aj0 n (⟨8, ([] : List UInt8), r60.N, (⟨0, 0, ([] : List UInt8), ([] : List Expr)⟩ : Expr), (⟨0, 0, ([] : List UInt8), ([] : List Expr)⟩ : Expr), ([] : List Stmt), ([] : List Stmt)⟩ : Stmt) (⟨b0_.tokens, r61⟩ : PPz) _ hr63
        refine AWp.rgP tt_ok [orc pr59 [], orc pr63 []] (x := x66) (by kernel_rfl) (all_cons pr63 (all_cons pr59 all_nil)) ?_
        obtain rfl := Option.some.inj h
        exact AE.then_pan (AE.block_pan (AE.then_pan (post_pan (by kernel_rfl))))
      | pan x62 r61 =>
       have pr59 := c_z0 n 3 (⟨b0_.tokens, r57.2⟩ : PPz) _ hr59
       refine AWp.rgP tt_ok [orc pr59 []] (x := x62) (by kernel_rfl) (all_cons pr59 all_nil) ?_
       obtain rfl := Option.some.inj h
       exact AE.then_pan (AE.block_pan (AE.then_pan (post_pan (by kernel_rfl))))
     ·refine AWp.seq ?_
      obtain ⟨r67, hr67, h⟩ := bind_some h
      have pr67 := c_u0 n ([105, 102] : List UInt8) (⟨b0_.tokens, r57.2⟩ : PPz) _ hr67
      refine AWp.rg tt_ok [orc pr67 []] (by kernel_rfl) (all_cons pr67 all_nil) ?_
      refine AE.tn_ ?_
      refine AWp.cnd h (by kernel_rfl) ?_ ?_ <;> clear h <;> intro h
      ·refine AWp.seq ?_
       obtain ⟨r69, hr69, h⟩ := bind_some h
       cases r69 with
       | ret r70 r71 =>
        have pr69 := c_a0 n 1 0 (⟨b0_.tokens, r67.2⟩ : PPz) _ hr69
        obtain ⟨r73, hr73, h⟩ := bind_some h
        cases r73 with
        | ret r74 r75 =>
         have pr73 := i_b0 depth (⟨b0_.tokens, r71⟩ : PPz) _ hr73
         refine AWp.rg tt_ok [orc pr69 [], orc pr73 [], .own] (by kernel_rfl) (all_cons pr73 (all_cons pr69 all_nil)) ?_
         refine AE.tn_ ?_
         refine AWp.cut (fun st' => ∃ (v82 : Int) (v83 : List Stmt), restr [4, 7] [0, 1, 2] 3 st'.env st'.H st'.nxt = some ⟨[(4, ⟨.ptr 1 0, none⟩), (7, ⟨.ptr 2 0, none⟩)], [(0, [⟨.v (encL 4 enc_Token b0_.tokens), none⟩, ⟨.v (.int .i64 v82), none⟩]), (1, [⟨.v (.int .i64 0), none⟩, ⟨.v (.str ([] : List UInt8)), none⟩, ⟨.v (.int .i64 0), none⟩, ⟨.v (.int .i64 0), none⟩, ⟨.v (.int .i64 0), none⟩, ⟨.v (.str ([] : List UInt8)), none⟩, ⟨.v (encL 4 enc_Expr ([] : List Expr)), none⟩, ⟨.v (.int .i64 0), none⟩, ⟨.v (.int .i64 0), none⟩, ⟨.v (.str ([] : List UInt8)), none⟩, ⟨.v (encL 4 enc_Expr ([] : List Expr)), none⟩, ⟨.v (encL 13 enc_Stmt ([] : List Stmt)), (some 79)⟩, ⟨.v (encL 13 enc_Stmt ([] : List Stmt)), (some 79)⟩]), (2, [⟨.v (.int .i64 5), none⟩, ⟨.v (.str ([] : List UInt8)), none⟩, ⟨.v (.int .i64 0), none⟩, ⟨.v (.int .i64 r70.Op), none⟩, ⟨.v (.int .i64 r70.N), none⟩, ⟨.v (.str r70.S), none⟩, ⟨.v (encL 4 enc_Expr r70.Args), none⟩, ⟨.v (.int .i64 0), none⟩, ⟨.v (.int .i64 0), none⟩, ⟨.v (.str ([] : List UInt8)), none⟩, ⟨.v (encL 4 enc_Expr ([] : List Expr)), none⟩, ⟨.v (encL 13 enc_Stmt r74), none⟩, ⟨.v (encL 13 enc_Stmt v83), (some 79)⟩])], 3⟩ ∧ F_k0_j1 n f_b0 f_k0 f_m0 b0_ r70 r74 v82 v83 = some r) ?_ ?_
         ·refine AWp.seq ?_
          obtain ⟨r77, hr77, h⟩ := bind_some h
          have pr77 := c_u0 n ([101, 108, 115, 101] : List UInt8) (⟨b0_.tokens, r75⟩ : PPz) _ hr77
          refine AWp.rg tt_ok [orc pr77 []] (by kernel_rfl) (all_cons pr77 all_nil) ?_
          refine AE.tn_ ?_
          refine AWp.cnd h (by kernel_rfl) ?_ ?_ <;> clear h <;> intro h
          ·obtain ⟨r78, hr78, h⟩ := bind_some h
           cases r78 with
           | ret r79 r80 =>
            have pr78 := i_b0 depth (⟨b0_.tokens, r77.2⟩ : PPz) _ hr78
            refine AWp.rg tt_ok [orc pr78 []] (by kernel_rfl) (all_cons pr78 all_nil) ?_
            exact AE.tn_ ⟨r80, r79, by kernel_rfl, h⟩
           | pan x81 r80 =>
            have pr78 := i_b0 depth (⟨b0_.tokens, r77.2⟩ : PPz) _ hr78
            refine AWp.rgP tt_ok [orc pr78 []] (x := x81) (by kernel_rfl) (all_cons pr78 all_nil) ?_
            obtain rfl := Option.some.inj h
            exact AE.then_pan (AE.block_pan (AE.then_pan (post_pan (by kernel_rfl))))
          ·refine AWp.skip ?_
           exact AE.tn_ ⟨r77.2, ([] : List Stmt), by kernel_rfl, h⟩
         ·clear h
          rintro st' ⟨v82, v83, hr', h⟩
          refine AWp.drop _ _ _ hr' (by kernel_rfl) ?_
          clear hr' st'
          unfold F_k0_j1 at h
          refine AWp.seq ?_
          refine AWp.rg tt_ok [] (by kernel_rfl) all_nil ?_
          refine AE.tn_ ?_
          refine AWp.ret ?_
          obtain rfl := Option.some.inj h
          exact AE.br_ (AE.tr_ (post_ret (by kernel_rfl)))
        | pan x76 r75 =>
         have pr73 := i_b0 depth (⟨b0_.tokens, r71⟩ : PPz) _ hr73
         refine AWp.rgP tt_ok [orc pr69 [], orc pr73 []] (x := x76) (by kernel_rfl) (all_cons pr73 (all_cons pr69 all_nil)) ?_
         obtain rfl := Option.some.inj h
         exact AE.then_pan (AE.block_pan (AE.then_pan (post_pan (by kernel_rfl))))
       | pan x72 r71 =>
        have pr69 := c_a0 n 1 0 (⟨b0_.tokens, r67.2⟩ : PPz) _ hr69
        refine AWp.rgP tt_ok [orc pr69 []] (x := x72) (by kernel_rfl) (all_cons pr69 all_nil) ?_
        obtain rfl := Option.some.inj h
        exact AE.then_pan (AE.block_pan (AE.then_pan (post_pan (by kernel_rfl))))
      ·refine AWp.seq ?_
       obtain ⟨r85, hr85, h⟩ := bind_some h
       have pr85 := c_u0 n ([102, 111, 114] : List UInt8) (⟨b0_.tokens, r67.2⟩ : PPz) _ hr85
       refine AWp.rg tt_ok [orc pr85 []] (by kernel_rfl) (all_cons pr85 all_nil) ?_
       refine AE.tn_ ?_
       refine AWp.cnd h (by kernel_rfl) ?_ ?_ <;> clear h <;> intro h
       ·refine AWp.seq ?_
        obtain ⟨r87, hr87, h⟩ := bind_some h
        cases r87 with
        | ret r88 r89 =>
         have pr87 := i_m0 depth (⟨b0_.tokens, r85.2⟩ : PPz) _ hr87
         refine AWp.rg tt_ok [orc pr87 []] (by kernel_rfl) (all_cons pr87 all_nil) ?_
         refine AE.tn_ ?_
         refine AWp.ret ?_
         obtain rfl := Option.some.inj h
         exact AE.br_ (AE.tr_ (post_ret (by kernel_rfl)))
        | pan x90 r89 =>
         have pr87 := i_m0 depth (⟨b0_.tokens, r85.2⟩ : PPz) _ hr87
         refine AWp.rgP tt_ok [orc pr87 []] (x := x90) (by kernel_rfl) (all_cons pr87 all_nil) ?_
         obtain rfl := Option.some.inj h
         exact AE.then_pan (AE.block_pan (AE.then_pan (post_pan (by kernel_rfl))))
       ·refine AWp.skip ?_
        refine AE.bn_ (AE.tn_ ?_)
        refine AWp.seq ?_
        obtain ⟨r91, hr91, h⟩ := bind_some h
        cases r91 with
        | ret r92 r93 =>
         have pr91 := c_z0 n 1 (⟨b0_.tokens, r85.2⟩ : PPz) _ hr91
         refine AWp.rg tt_ok [orc pr91 []] (by kernel_rfl) (all_cons pr91 all_nil) ?_
         refine AE.tn_ ?_
         refine AWp.seq ?_
         obtain ⟨r95, hr95, h⟩ := bind_some h
         cases r95 with
         | ret r96 r97 =>
          have pr95 := c_j0 n ([61] : List UInt8) (⟨b0_.tokens, r93⟩ : PPz) _ hr95
          refine AWp.rg tt_ok [orc pr95 []] (by kernel_rfl) (all_cons pr95 all_nil) ?_
          refine AE.tn_ ?_
          refine AWp.seq ?_
          obtain ⟨r99, hr99, h⟩ := bind_some h
          cases r99 with
          | ret r100 r101 =>
           have pr99 := c_a0 n 1 0 (⟨b0_.tokens, r97⟩ : PPz) _ hr99
           obtain ⟨r103, hr103, h⟩ := bind_some h
           cases r103 with
           | ret r104 r105 =>
            have pr103 := c_aj0 n (⟨2, r92.Text, 0, r100, (⟨0, 0, ([] : List UInt8), ([] : List Expr)⟩ : Expr), ([] : List Stmt), ([] : List Stmt)⟩ : Stmt) (⟨b0_.tokens, r101⟩ : PPz) _ hr103
            refine AWp.rg tt_ok [orc pr99 [], orc pr103 []] (by kernel_rfl) (all_cons pr103 (all_cons pr99 all_nil)) ?_
            refine AE.tn_ ?_
            refine AWp.ret ?_
            obtain rfl := Option.some.inj h
            exact post_ret (by kernel_rfl)
           | pan x106 r105 =>
            have pr103 := c_aj0 n (⟨2, r92.Text, 0, r100, (⟨0, 0, ([] : List UInt8), ([] : List Expr)⟩ : Expr), ([] : List Stmt), ([] : List Stmt)⟩ : Stmt) (⟨b0_.tokens, r101⟩ : PPz) _ hr103
            refine AWp.rgP tt_ok [orc pr99 [], orc pr103 []] (x := x106) (by kernel_rfl) (all_cons pr103 (all_cons pr99 all_nil)) ?_
            obtain rfl := Option.some.inj h
            exact AE.then_pan (post_pan (by kernel_rfl))
          | pan x102 r101 =>
           have pr99 := c_a0 n 1 0 (⟨b0_.tokens, r97⟩ : PPz) _ hr99
           refine AWp.rgP tt_ok [orc pr99 []] (x := x102) (by kernel_rfl) (all_cons pr99 all_nil) ?_
           obtain rfl := Option.some.inj h
           exact AE.then_pan (post_pan (by kernel_rfl))
         | pan x98 r97 =>
          have pr95 := c_j0 n ([61] : List UInt8) (⟨b0_.tokens, r93⟩ : PPz) _ hr95
          refine AWp.rgP tt_ok [orc pr95 []] (x := x98) (by kernel_rfl) (all_cons pr95 all_nil) ?_
          obtain rfl := Option.some.inj h
          exact AE.then_pan (post_pan (by kernel_rfl))
        | pan x94 r93 =>
         have pr91 := c_z0 n 1 (⟨b0_.tokens, r85.2⟩ : PPz) _ hr91
         refine AWp.rgP tt_ok [orc pr91 []] (x := x94) (by kernel_rfl) (all_cons pr91 all_nil) ?_
         obtain rfl := Option.some.inj h
         exact AE.then_pan (post_pan (by kernel_rfl))
theorem cB_parser_parser_loop (n : Nat) (f_b0 : Int → PPz → Option (Pn (List Stmt) Int)) (f_k0 : Int → PPz → Option (Pn Stmt Int)) (f_m0 : Int → PPz → Option (Pn Stmt Int)) (i_b0 : ∀ (depth : Int) (b0_ : PPz) (r : Pn (List Stmt) Int), f_b0 depth b0_ = some r → saysOf Tryz.prog 89 [.ptr 0 0, .v (.int .i64 depth)] [] [[⟨.v (encL 4 enc_Token b0_.tokens), none⟩, ⟨.v (.int .i64 b0_.at_), none⟩]] (Pn.on r (fun za zb => .ret (.v (encL 13 enc_Stmt za)) (some 79)) (fun zx zb => .pan zx)) (Pn.on r (fun za zb => [[⟨.v (encL 4 enc_Token b0_.tokens), none⟩, ⟨.v (.int .i64 zb), none⟩]]) (fun zx zb => [[⟨.v (encL 4 enc_Token b0_.tokens), none⟩, ⟨.v (.int .i64 zb), none⟩]]))) (i_k0 : ∀ (depth : Int) (b0_ : PPz) (r : Pn Stmt Int), f_k0 depth b0_ = some r → saysOf Tryz.prog 134 [.ptr 0 0, .v (.int .i64 depth)] [] [[⟨.v (encL 4 enc_Token b0_.tokens), none⟩, ⟨.v (.int .i64 b0_.at_), none⟩]] (Pn.on r (fun za zb => .ret (.v (.agg [.int .i64 za.Op, .str za.Name, .int .i64 za.Max, .int .i64 za.A.Op, .int .i64 za.A.N, .str za.A.S, encL 4 enc_Expr za.A.Args, .int .i64 za.B.Op, .int .i64 za.B.N, .str za.B.S, encL 4 enc_Expr za.B.Args, encL 13 enc_Stmt za.Body, encL 13 enc_Stmt za.Else])) none) (fun zx zb => .pan zx)) (Pn.on r (fun za zb => [[⟨.v (encL 4 enc_Token b0_.tokens), none⟩, ⟨.v (.int .i64 zb), none⟩]]) (fun zx zb => [[⟨.v (encL 4 enc_Token b0_.tokens), none⟩, ⟨.v (.int .i64 zb), none⟩]]))) (i_m0 : ∀ (depth : Int) (b0_ : PPz) (r : Pn Stmt Int), f_m0 depth b0_ = some r → saysOf Tryz.prog 165 [.ptr 0 0, .v (.int .i64 depth)] [] [[⟨.v (encL 4 enc_Token b0_.tokens), none⟩, ⟨.v (.int .i64 b0_.at_), none⟩]] (Pn.on r (fun za zb => .ret (.v (.agg [.int .i64 za.Op, .str za.Name, .int .i64 za.Max, .int .i64 za.A.Op, .int .i64 za.A.N, .str za.A.S, encL 4 enc_Expr za.A.Args, .int .i64 za.B.Op, .int .i64 za.B.N, .str za.B.S, encL 4 enc_Expr za.B.Args, encL 13 enc_Stmt za.Body, encL 13 enc_Stmt za.Else])) none) (fun zx zb => .pan zx)) (Pn.on r (fun za zb => [[⟨.v (encL 4 enc_Token b0_.tokens), none⟩, ⟨.v (.int .i64 zb), none⟩]]) (fun zx zb => [[⟨.v (encL 4 enc_Token b0_.tokens), none⟩, ⟨.v (.int .i64 zb), none⟩]]))) (depth : Int) (b0_ : PPz) (r : Pn Stmt Int) (h : B_m0 n f_b0 f_k0 f_m0 depth b0_ = some r) : saysOf Tryz.prog 165 [.ptr 0 0, .v (.int .i64 depth)] [] [[⟨.v (encL 4 enc_Token b0_.tokens), none⟩, ⟨.v (.int .i64 b0_.at_), none⟩]] (Pn.on r (fun za zb => .ret (.v (.agg [.int .i64 za.Op, .str za.Name, .int .i64 za.Max, .int .i64 za.A.Op, .int .i64 za.A.N, .str za.A.S, encL 4 enc_Expr za.A.Args, .int .i64 za.B.Op, .int .i64 za.B.N, .str za.B.S, encL 4 enc_Expr za.B.Args, encL 13 enc_Stmt za.Body, encL 13 enc_Stmt za.Else])) none) (fun zx zb => .pan zx)) (Pn.on r (fun za zb => [[⟨.v (encL 4 enc_Token b0_.tokens), none⟩, ⟨.v (.int .i64 zb), none⟩]]) (fun zx zb => [[⟨.v (encL 4 enc_Token b0_.tokens), none⟩, ⟨.v (.int .i64 zb), none⟩]])) := by
 refine sw_ tt_ok Tryz.func165 rfl rfl rfl ?_
 unfold B_m0 at h
 refine AWp.seq ?_
 refine AWp.rg tt_ok [] (by kernel_rfl) all_nil ?_
 refine AE.tn_ ?_
 refine AWp.seq ?_
 obtain ⟨r1, hr1, h⟩ := bind_some h
 cases r1 with
 | ret r2 r3 =>
  have pr1 := c_z0 n 1 b0_ _ hr1
  refine AWp.rg tt_ok [orc pr1 [], .own] (by kernel_rfl) (all_cons pr1 all_nil) ?_
  refine AE.tn_ ?_
  refine AWp.seq ?_
  obtain ⟨r5, hr5, h⟩ := bind_some h
  cases r5 with
  | ret r6 r7 =>
   have pr5 := c_j0 n ([61] : List UInt8) (⟨b0_.tokens, r3⟩ : PPz) _ hr5
   refine AWp.rg tt_ok [orc pr5 []] (by kernel_rfl) (all_cons pr5 all_nil) ?_
   refine AE.tn_ ?_
   refine AWp.seq ?_
   obtain ⟨r9, hr9, h⟩ := bind_some h
   cases r9 with
   | ret r10 r11 =>
    have pr9 := c_a0 n 1 0 (⟨b0_.tokens, r7⟩ : PPz) _ hr9
    refine AWp.rg tt_ok [orc pr9 []] (by kernel_rfl) (all_cons pr9 all_nil) ?_
    refine AE.tn_ ?_
    refine AWp.seq ?_
    obtain ⟨r13, hr13, h⟩ := bind_some h
    cases r13 with
    | ret r14 r15 =>
     have pr13 := c_j0 n ([116, 111] : List UInt8) (⟨b0_.tokens, r11⟩ : PPz) _ hr13
     refine AWp.rg tt_ok [orc pr13 []] (by kernel_rfl) (all_cons pr13 all_nil) ?_
     refine AE.tn_ ?_
     refine AWp.seq ?_
     obtain ⟨r17, hr17, h⟩ := bind_some h
     cases r17 with
     | ret r18 r19 =>
      have pr17 := c_a0 n 1 0 (⟨b0_.tokens, r15⟩ : PPz) _ hr17
      refine AWp.rg tt_ok [orc pr17 []] (by kernel_rfl) (all_cons pr17 all_nil) ?_
      refine AE.tn_ ?_
      refine AWp.seq ?_
      obtain ⟨r21, hr21, h⟩ := bind_some h
      cases r21 with
      | ret r22 r23 =>
       have pr21 := c_j0 n ([109, 97, 120] : List UInt8) (⟨b0_.tokens, r19⟩ : PPz) _ hr21
       refine AWp.rg tt_ok [orc pr21 []] (by kernel_rfl) (all_cons pr21 all_nil) ?_
       refine AE.tn_ ?_
       refine AWp.seq ?_
       obtain ⟨r25, hr25, h⟩ := bind_some h
       cases r25 with
       | ret r26 r27 =>
        have pr25 := c_z0 n 3 (⟨b0_.tokens, r23⟩ : PPz) _ hr25
        refine AWp.rg tt_ok [orc pr25 []] (by kernel_rfl) (all_cons pr25 all_nil) ?_
        refine AE.tn_ ?_
        refine AWp.seq ?_
        obtain ⟨r29, hr29, h⟩ := bind_some h
        cases r29 with
        | ret r30 r31 =>
         have pr29 := i_b0 depth (⟨b0_.tokens, r27⟩ : PPz) _ hr29
         refine AWp.rg tt_ok [orc pr29 []] (by kernel_rfl) (all_cons pr29 all_nil) ?_
         refine AE.tn_ ?_
         refine AWp.seq ?_
         refine AWp.rg tt_ok [] (by kernel_rfl) all_nil ?_
         refine AE.tn_ ?_
         refine AWp.ret ?_
         obtain rfl := Option.some.inj h
         exact post_ret (by kernel_rfl)
        | pan x32 r31 =>
         have pr29 := i_b0 depth (⟨b0_.tokens, r27⟩ : PPz) _ hr29
         refine AWp.rgP tt_ok [orc pr29 []] (x := x32) (by kernel_rfl) (all_cons pr29 all_nil) ?_
         obtain rfl := Option.some.inj h
         exact AE.then_pan (post_pan (by kernel_rfl))
       | pan x28 r27 =>
        have pr25 := c_z0 n 3 (⟨b0_.tokens, r23⟩ : PPz) _ hr25
        refine AWp.rgP tt_ok [orc pr25 []] (x := x28) (by kernel_rfl) (all_cons pr25 all_nil) ?_
        obtain rfl := Option.some.inj h
        exact AE.then_pan (post_pan (by kernel_rfl))
      | pan x24 r23 =>
       have pr21 := c_j0 n ([109, 97, 120] : List UInt8) (⟨b0_.tokens, r19⟩ : PPz) _ hr21
       refine AWp.rgP tt_ok [orc pr21 []] (x := x24) (by kernel_rfl) (all_cons pr21 all_nil) ?_
       obtain rfl := Option.some.inj h
       exact AE.then_pan (post_pan (by kernel_rfl))
     | pan x20 r19 =>
      have pr17 := c_a0 n 1 0 (⟨b0_.tokens, r15⟩ : PPz) _ hr17
      refine AWp.rgP tt_ok [orc pr17 []] (x := x20) (by kernel_rfl) (all_cons pr17 all_nil) ?_
      obtain rfl := Option.some.inj h
      exact AE.then_pan (post_pan (by kernel_rfl))
    | pan x16 r15 =>
     have pr13 := c_j0 n ([116, 111] : List UInt8) (⟨b0_.tokens, r11⟩ : PPz) _ hr13
     refine AWp.rgP tt_ok [orc pr13 []] (x := x16) (by kernel_rfl) (all_cons pr13 all_nil) ?_
     obtain rfl := Option.some.inj h
     exact AE.then_pan (post_pan (by kernel_rfl))
   | pan x12 r11 =>
    have pr9 := c_a0 n 1 0 (⟨b0_.tokens, r7⟩ : PPz) _ hr9
    refine AWp.rgP tt_ok [orc pr9 []] (x := x12) (by kernel_rfl) (all_cons pr9 all_nil) ?_
    obtain rfl := Option.some.inj h
    exact AE.then_pan (post_pan (by kernel_rfl))
  | pan x8 r7 =>
   have pr5 := c_j0 n ([61] : List UInt8) (⟨b0_.tokens, r3⟩ : PPz) _ hr5
   refine AWp.rgP tt_ok [orc pr5 []] (x := x8) (by kernel_rfl) (all_cons pr5 all_nil) ?_
   obtain rfl := Option.some.inj h
   exact AE.then_pan (post_pan (by kernel_rfl))
 | pan x4 r3 =>
  have pr1 := c_z0 n 1 b0_ _ hr1
  refine AWp.rgP tt_ok [orc pr1 []] (x := x4) (by kernel_rfl) (all_cons pr1 all_nil) ?_
  obtain rfl := Option.some.inj h
  exact AE.then_pan (post_pan (by kernel_rfl))
theorem cS_b0 (n : Nat) : (∀ (depth : Int) (b0_ : PPz) (r : Pn (List Stmt) Int), F_b0 n depth b0_ = some r → saysOf Tryz.prog 89 [.ptr 0 0, .v (.int .i64 depth)] [] [[⟨.v (encL 4 enc_Token b0_.tokens), none⟩, ⟨.v (.int .i64 b0_.at_), none⟩]] (Pn.on r (fun za zb => .ret (.v (encL 13 enc_Stmt za)) (some 79)) (fun zx zb => .pan zx)) (Pn.on r (fun za zb => [[⟨.v (encL 4 enc_Token b0_.tokens), none⟩, ⟨.v (.int .i64 zb), none⟩]]) (fun zx zb => [[⟨.v (encL 4 enc_Token b0_.tokens), none⟩, ⟨.v (.int .i64 zb), none⟩]]))) ∧ (∀ (depth : Int) (b0_ : PPz) (r : Pn Stmt Int), F_k0 n depth b0_ = some r → saysOf Tryz.prog 134 [.ptr 0 0, .v (.int .i64 depth)] [] [[⟨.v (encL 4 enc_Token b0_.tokens), none⟩, ⟨.v (.int .i64 b0_.at_), none⟩]] (Pn.on r (fun za zb => .ret (.v (.agg [.int .i64 za.Op, .str za.Name, .int .i64 za.Max, .int .i64 za.A.Op, .int .i64 za.A.N, .str za.A.S, encL 4 enc_Expr za.A.Args, .int .i64 za.B.Op, .int .i64 za.B.N, .str za.B.S, encL 4 enc_Expr za.B.Args, encL 13 enc_Stmt za.Body, encL 13 enc_Stmt za.Else])) none) (fun zx zb => .pan zx)) (Pn.on r (fun za zb => [[⟨.v (encL 4 enc_Token b0_.tokens), none⟩, ⟨.v (.int .i64 zb), none⟩]]) (fun zx zb => [[⟨.v (encL 4 enc_Token b0_.tokens), none⟩, ⟨.v (.int .i64 zb), none⟩]]))) ∧ (∀ (depth : Int) (b0_ : PPz) (r : Pn Stmt Int), F_m0 n depth b0_ = some r → saysOf Tryz.prog 165 [.ptr 0 0, .v (.int .i64 depth)] [] [[⟨.v (encL 4 enc_Token b0_.tokens), none⟩, ⟨.v (.int .i64 b0_.at_), none⟩]] (Pn.on r (fun za zb => .ret (.v (.agg [.int .i64 za.Op, .str za.Name, .int .i64 za.Max, .int .i64 za.A.Op, .int .i64 za.A.N, .str za.A.S, encL 4 enc_Expr za.A.Args, .int .i64 za.B.Op, .int .i64 za.B.N, .str za.B.S, encL 4 enc_Expr za.B.Args, encL 13 enc_Stmt za.Body, encL 13 enc_Stmt za.Else])) none) (fun zx zb => .pan zx)) (Pn.on r (fun za zb => [[⟨.v (encL 4 enc_Token b0_.tokens), none⟩, ⟨.v (.int .i64 zb), none⟩]]) (fun zx zb => [[⟨.v (encL 4 enc_Token b0_.tokens), none⟩, ⟨.v (.int .i64 zb), none⟩]]))) := by
 induction n with
 | zero => exact ⟨fun depth b0_ r h => (by have h2 : (none : Option _) = some r := h; cases h2), fun depth b0_ r h => (by have h2 : (none : Option _) = some r := h; cases h2), fun depth b0_ r h => (by have h2 : (none : Option _) = some r := h; cases h2)⟩
 | succ m ih => exact ⟨fun depth b0_ r h => cB_parser_parser_block m (F_b0 m) (F_k0 m) (F_m0 m) ih.1 ih.2.1 ih.2.2 depth b0_ r h, fun depth b0_ r h => cB_parser_parser_stmt m (F_b0 m) (F_k0 m) (F_m0 m) ih.1 ih.2.1 ih.2.2 depth b0_ r h, fun depth b0_ r h => cB_parser_parser_loop m (F_b0 m) (F_k0 m) (F_m0 m) ih.1 ih.2.1 ih.2.2 depth b0_ r h⟩
theorem c_b0 (n : Nat) (depth : Int) (b0_ : PPz) (r : Pn (List Stmt) Int) (h : F_b0 n depth b0_ = some r) : saysOf Tryz.prog 89 [.ptr 0 0, .v (.int .i64 depth)] [] [[⟨.v (encL 4 enc_Token b0_.tokens), none⟩, ⟨.v (.int .i64 b0_.at_), none⟩]] (Pn.on r (fun za zb => .ret (.v (encL 13 enc_Stmt za)) (some 79)) (fun zx zb => .pan zx)) (Pn.on r (fun za zb => [[⟨.v (encL 4 enc_Token b0_.tokens), none⟩, ⟨.v (.int .i64 zb), none⟩]]) (fun zx zb => [[⟨.v (encL 4 enc_Token b0_.tokens), none⟩, ⟨.v (.int .i64 zb), none⟩]])) := (cS_b0 n).1 depth b0_ r h
theorem c_as0 (n : Nat) (b0_ : PPz) (r : Pn Param Int) (h : F_as0 n b0_ = some r) : saysOf Tryz.prog 88 [.ptr 0 0] [] [[⟨.v (encL 4 enc_Token b0_.tokens), none⟩, ⟨.v (.int .i64 b0_.at_), none⟩]] (Pn.on r (fun za zb => .ret (.v (.agg [.str za.Name, .int .i64 za.Type_])) none) (fun zx zb => .pan zx)) (Pn.on r (fun za zb => [[⟨.v (encL 4 enc_Token b0_.tokens), none⟩, ⟨.v (.int .i64 zb), none⟩]]) (fun zx zb => [[⟨.v (encL 4 enc_Token b0_.tokens), none⟩, ⟨.v (.int .i64 zb), none⟩]])) := by
 refine sw_ tt_ok Tryz.func88 rfl rfl rfl ?_
 unfold F_as0 at h
 refine AWp.seq ?_
 refine AWp.rg tt_ok [] (by kernel_rfl) all_nil ?_
 refine AE.tn_ ?_
 refine AWp.seq ?_
 obtain ⟨r1, hr1, h⟩ := bind_some h
 cases r1 with
 | ret r2 r3 =>
  have pr1 := c_z0 n 1 b0_ _ hr1
  refine AWp.rg tt_ok [orc pr1 []] (by kernel_rfl) (all_cons pr1 all_nil) ?_
  refine AE.tn_ ?_
  refine AWp.seq ?_
  obtain ⟨r5, hr5, h⟩ := bind_some h
  cases r5 with
  | ret r6 r7 =>
   have pr5 := c_j0 n ([58] : List UInt8) (⟨b0_.tokens, r3⟩ : PPz) _ hr5
   refine AWp.rg tt_ok [orc pr5 []] (by kernel_rfl) (all_cons pr5 all_nil) ?_
   refine AE.tn_ ?_
   refine AWp.cut (fun st' => ∃ (v16 : Int) (v17 : Int), restr [2, 3] [0, 1, 2] 3 st'.env st'.H st'.nxt = some ⟨[(2, ⟨.ptr 1 0, none⟩), (3, ⟨.ptr 2 0, none⟩)], [(0, [⟨.v (encL 4 enc_Token b0_.tokens), none⟩, ⟨.v (.int .i64 v16), none⟩]), (1, [⟨.v (.str ([] : List UInt8)), none⟩, ⟨.v (.int .i64 0), none⟩]), (2, [⟨.v (.str r2.Text), none⟩, ⟨.v (.int .i64 v17), none⟩])], 3⟩ ∧ F_as0_j1 n b0_ r2 v16 v17 = some r) ?_ ?_
   ·refine AWp.block ?_
    refine AWp.seq ?_
    obtain ⟨r9, hr9, h⟩ := bind_some h
    have pr9 := c_u0 n ([105, 110, 116] : List UInt8) (⟨b0_.tokens, r7⟩ : PPz) _ hr9
    refine AWp.rg tt_ok [orc pr9 []] (by kernel_rfl) (all_cons pr9 all_nil) ?_
    refine AE.tn_ ?_
    refine AWp.cnd h (by kernel_rfl) ?_ ?_ <;> clear h <;> intro h
    ·refine AWp.rg tt_ok [] (by kernel_rfl) all_nil ?_
     exact AE.bn_ (AE.tn_ ⟨r9.2, 1, by kernel_rfl, h⟩)
    ·refine AWp.seq ?_
     obtain ⟨r10, hr10, h⟩ := bind_some h
     have pr10 := c_u0 n ([115, 116, 114] : List UInt8) (⟨b0_.tokens, r9.2⟩ : PPz) _ hr10
     refine AWp.rg tt_ok [orc pr10 []] (by kernel_rfl) (all_cons pr10 all_nil) ?_
     refine AE.tn_ ?_
     refine AWp.cnd h (by kernel_rfl) ?_ ?_ <;> clear h <;> intro h
     ·refine AWp.rg tt_ok [] (by kernel_rfl) all_nil ?_
      exact AE.bn_ (AE.tn_ ⟨r10.2, 2, by kernel_rfl, h⟩)
     ·refine AWp.seq ?_
      obtain ⟨r11, hr11, h⟩ := bind_some h
      have pr11 := c_u0 n ([98, 111, 111, 108] : List UInt8) (⟨b0_.tokens, r10.2⟩ : PPz) _ hr11
      refine AWp.rg tt_ok [orc pr11 []] (by kernel_rfl) (all_cons pr11 all_nil) ?_
      refine AE.tn_ ?_
      refine AWp.cnd h (by kernel_rfl) ?_ ?_ <;> clear h <;> intro h
      ·refine AWp.rg tt_ok [] (by kernel_rfl) all_nil ?_
       exact AE.bn_ (AE.tn_ ⟨r11.2, 3, by kernel_rfl, h⟩)
      ·obtain ⟨r12, hr12, h⟩ := bind_some h
       cases r12 with
       | ret r13 r14 =>
        have pr12 := c_v0 n 5 (⟨b0_.tokens, r11.2⟩ : PPz) _ hr12
        refine AWp.rg tt_ok [orn pr12 []] (by kernel_rfl) (all_cons pr12 all_nil) ?_
        exact AE.bn_ (AE.tn_ ⟨r11.2, 0, by kernel_rfl, h⟩)
       | pan x15 r14 =>
        have pr12 := c_v0 n 5 (⟨b0_.tokens, r11.2⟩ : PPz) _ hr12
        refine AWp.rgP tt_ok [orn pr12 []] (x := x15) (by kernel_rfl) (all_cons pr12 all_nil) ?_
        obtain rfl := Option.some.inj h
        exact AE.block_pan (AE.then_pan (post_pan (by kernel_rfl)))
   ·clear h
    rintro st' ⟨v16, v17, hr', h⟩
    refine AWp.drop _ _ _ hr' (by kernel_rfl) ?_
    clear hr' st'
    unfold F_as0_j1 at h
    refine AWp.seq ?_
    refine AWp.rg tt_ok [] (by kernel_rfl) all_nil ?_
    refine AE.tn_ ?_
    refine AWp.ret ?_
    obtain rfl := Option.some.inj h
    exact post_ret (by kernel_rfl)
  | pan x8 r7 =>
   have pr5 := c_j0 n ([58] : List UInt8) (⟨b0_.tokens, r3⟩ : PPz) _ hr5
   refine AWp.rgP tt_ok [orc pr5 []] (x := x8) (by kernel_rfl) (all_cons pr5 all_nil) ?_
   obtain rfl := Option.some.inj h
   exact AE.then_pan (post_pan (by kernel_rfl))
 | pan x4 r3 =>
  have pr1 := c_z0 n 1 b0_ _ hr1
  refine AWp.rgP tt_ok [orc pr1 []] (x := x4) (by kernel_rfl) (all_cons pr1 all_nil) ?_
  obtain rfl := Option.some.inj h
  exact AE.then_pan (post_pan (by kernel_rfl))
theorem c_x0 (n : Nat) (b0_ : PPz) (r : Pn Proc Int) (h : F_x0 n b0_ = some r) : saysOf Tryz.prog 40 [.ptr 0 0] [] [[⟨.v (encL 4 enc_Token b0_.tokens), none⟩, ⟨.v (.int .i64 b0_.at_), none⟩]] (Pn.on r (fun za zb => .ret (.v (.agg [.str za.Name, encL 2 enc_Param za.Params, encL 13 enc_Stmt za.Body])) none) (fun zx zb => .pan zx)) (Pn.on r (fun za zb => [[⟨.v (encL 4 enc_Token b0_.tokens), none⟩, ⟨.v (.int .i64 zb), none⟩]]) (fun zx zb => [[⟨.v (encL 4 enc_Token b0_.tokens), none⟩, ⟨.v (.int .i64 zb), none⟩]])) := by
 refine sw_ tt_ok Tryz.func40 rfl rfl rfl ?_
 unfold F_x0 at h
 refine AWp.seq ?_
 refine AWp.rg tt_ok [] (by kernel_rfl) all_nil ?_
 refine AE.tn_ ?_
 refine AWp.seq ?_
 obtain ⟨r1, hr1, h⟩ := bind_some h
 cases r1 with
 | ret r2 r3 =>
  have pr1 := c_j0 n ([112, 114, 111, 99] : List UInt8) b0_ _ hr1
  refine AWp.rg tt_ok [orc pr1 []] (by kernel_rfl) (all_cons pr1 all_nil) ?_
  refine AE.tn_ ?_
  refine AWp.seq ?_
  obtain ⟨r5, hr5, h⟩ := bind_some h
  cases r5 with
  | ret r6 r7 =>
   have pr5 := c_z0 n 1 (⟨b0_.tokens, r3⟩ : PPz) _ hr5
   refine AWp.rg tt_ok [orc pr5 [], .own] (by kernel_rfl) (all_cons pr5 all_nil) ?_
   refine AE.tn_ ?_
   refine AWp.seq ?_
   obtain ⟨r9, hr9, h⟩ := bind_some h
   cases r9 with
   | ret r10 r11 =>
    have pr9 := c_j0 n ([40] : List UInt8) (⟨b0_.tokens, r7⟩ : PPz) _ hr9
    refine AWp.rg tt_ok [orc pr9 []] (by kernel_rfl) (all_cons pr9 all_nil) ?_
    refine AE.tn_ ?_
    refine AWp.cut (fun st' => ∃ (v43 : Int) (v44 : List Param), restr [0, 2, 3] [0, 1, 2] 3 st'.env st'.H st'.nxt = some ⟨[(0, ⟨.ptr 0 0, none⟩), (2, ⟨.ptr 1 0, none⟩), (3, ⟨.ptr 2 0, none⟩)], [(0, [⟨.v (encL 4 enc_Token b0_.tokens), none⟩, ⟨.v (.int .i64 v43), none⟩]), (1, [⟨.v (.str ([] : List UInt8)), none⟩, ⟨.v (encL 2 enc_Param ([] : List Param)), (some 68)⟩, ⟨.v (encL 13 enc_Stmt ([] : List Stmt)), (some 79)⟩]), (2, [⟨.v (.str r6.Text), none⟩, ⟨.v (encL 2 enc_Param v44), (some 68)⟩, ⟨.v (encL 13 enc_Stmt ([] : List Stmt)), (some 79)⟩])], 3⟩ ∧ F_x0_j1 n b0_ r6 v43 v44 = some r) ?_ ?_
    ·refine AWp.seq ?_
     obtain ⟨r13, hr13, h⟩ := bind_some h
     have pr13 := c_u0 n ([41] : List UInt8) (⟨b0_.tokens, r11⟩ : PPz) _ hr13
     refine AWp.rg tt_ok [orc pr13 []] (by kernel_rfl) (all_cons pr13 all_nil) ?_
     refine AE.tn_ ?_
     refine AWp.cnd h (by kernel_rfl) ?_ ?_ <;> clear h <;> intro h
     ·refine AWp.seq ?_
      obtain ⟨r14, hr14, h⟩ := bind_some h
      cases r14 with
      | ret r15 r16 =>
       have pr14 := c_as0 n (⟨b0_.tokens, r13.2⟩ : PPz) _ hr14
       obtain ⟨g18, h⟩ := ass_some h
       refine AWp.rgD tt_ok mo_ok [(1, [.own]), (3, [orc pr14 []]), (4, [.val (encL 2 enc_Param ([r15] : List Param))]), (5, [.val (encL 2 enc_Param (([] : List Param) ++ ([r15] : List Param)))])] (by kernel_rfl) (all_cons (vimp_app (k := 2) (e := enc_Param) ([] : List Param) ([r15] : List Param)) (all_cons g18 (all_cons (vimp_litm (k := 2) (e := enc_Param) ([r15] : List Param)) (all_cons pr14 all_nil)))) ?_
       refine AE.tn_ ?_
       refine AWp.cut (fun st' => ∃ (v37 : Int) (v38 : List Param), restr [0, 2, 3] [0, 1, 2] 3 st'.env st'.H st'.nxt = some ⟨[(0, ⟨.ptr 0 0, none⟩), (2, ⟨.ptr 1 0, none⟩), (3, ⟨.ptr 2 0, none⟩)], [(0, [⟨.v (encL 4 enc_Token b0_.tokens), none⟩, ⟨.v (.int .i64 v37), none⟩]), (1, [⟨.v (.str ([] : List UInt8)), none⟩, ⟨.v (encL 2 enc_Param ([] : List Param)), (some 68)⟩, ⟨.v (encL 13 enc_Stmt ([] : List Stmt)), (some 79)⟩]), (2, [⟨.v (.str r6.Text), none⟩, ⟨.v (encL 2 enc_Param v38), (some 68)⟩, ⟨.v (encL 13 enc_Stmt ([] : List Stmt)), (some 79)⟩])], 3⟩ ∧ F_x0_j2 n b0_ r6 v37 v38 = some r) ?_ ?_
       ·refine AWp.block ?_
        refine AWp.loop (σ := Int × (List Param)) (fun zm zs zst => restr [0, 2, 3] [0, 1, 2] 3 zst.env zst.H zst.nxt = some ⟨[(0, ⟨.ptr 0 0, none⟩), (2, ⟨.ptr 1 0, none⟩), (3, ⟨.ptr 2 0, none⟩)], [(0, [⟨.v (encL 4 enc_Token b0_.tokens), none⟩, ⟨.v (.int .i64 zs.1), none⟩]), (1, [⟨.v (.str ([] : List UInt8)), none⟩, ⟨.v (encL 2 enc_Param ([] : List Param)), (some 68)⟩, ⟨.v (encL 13 enc_Stmt ([] : List Stmt)), (some 79)⟩]), (2, [⟨.v (.str r6.Text), none⟩, ⟨.v (encL 2 enc_Param zs.2), (some 68)⟩, ⟨.v (encL 13 enc_Stmt ([] : List Stmt)), (some 79)⟩])], 3⟩ ∧ F_x0_l3 n b0_ r6 zm zs.1 zs.2 = some r) ?_ (n := n) (s := (r16, (([] : List Param) ++ ([r15] : List Param)))) ⟨by kernel_rfl, h⟩
        clear h
        rintro m3 ⟨v27, v28⟩ st' ⟨hr', h⟩
        cases m3 with
        | zero =>
         have h2 : (none : Option _) = some r := h
         cases h2
        | succ m3 =>
         refine ⟨m3, rfl, AWp.drop _ _ _ hr' (by kernel_rfl) ?_⟩
         clear hr' st'
         replace h : F_x0_b3 n b0_ r6 (F_x0_l3 n b0_ r6 m3) v27 v28 = some r := h
         unfold F_x0_b3 at h
         refine AWp.seq ?_
         refine AWp.seq ?_
         obtain ⟨r29, hr29, h⟩ := bind_some h
         have pr29 := c_u0 n ([44] : List UInt8) (⟨b0_.tokens, v27⟩ : PPz) _ hr29
         refine AWp.rg tt_ok [orc pr29 []] (by kernel_rfl) (all_cons pr29 all_nil) ?_
         refine AE.tn_ ?_
         refine AWp.cnd h (by kernel_rfl) ?_ ?_ <;> clear h <;> intro h
         ·refine AWp.skip ?_
          refine AE.tn_ ?_
          refine AWp.block ?_
          obtain ⟨r30, hr30, h⟩ := bind_some h
          cases r30 with
          | ret r31 r32 =>
           have pr30 := c_as0 n (⟨b0_.tokens, r29.2⟩ : PPz) _ hr30
           obtain ⟨g34, h⟩ := ass_some h
           refine AWp.rgD tt_ok mo_ok [(1, [.own]), (3, [orc pr30 []]), (4, [.val (encL 2 enc_Param ([r31] : List Param))]), (5, [.val (encL 2 enc_Param (v28 ++ ([r31] : List Param)))])] (by kernel_rfl) (all_cons (vimp_app (k := 2) (e := enc_Param) v28 ([r31] : List Param)) (all_cons g34 (all_cons (vimp_litm (k := 2) (e := enc_Param) ([r31] : List Param)) (all_cons pr30 all_nil)))) ?_
           exact AE.bn_ (AE.tn_ ⟨(r32, (v28 ++ ([r31] : List Param))), by kernel_rfl, h⟩)
          | pan x33 r32 =>
           have pr30 := c_as0 n (⟨b0_.tokens, r29.2⟩ : PPz) _ hr30
           refine AWp.rgDP tt_ok mo_ok 3 [(3, [orc pr30 []])] (x := x33) (by kernel_rfl) (all_cons pr30 all_nil) (fun _ => ?_)
           obtain rfl := Option.some.inj h
           exact AE.block_pan (AE.then_pan (AE.block_pan (AE.then_pan (AE.then_pan (post_pan (by kernel_rfl))))))
         ·refine AWp.exit ?_
          exact AE.tx_ (AE.tx_ (AE.block_hit (AE.tn_ ⟨r29.2, v28, by kernel_rfl, h⟩)))
       ·clear h
        rintro st' ⟨v37, v38, hr', h⟩
        refine AWp.drop _ _ _ hr' (by kernel_rfl) ?_
        clear hr' st'
        unfold F_x0_j2 at h
        obtain ⟨r39, hr39, h⟩ := bind_some h
        cases r39 with
        | ret r40 r41 =>
         have pr39 := c_j0 n ([41] : List UInt8) (⟨b0_.tokens, v37⟩ : PPz) _ hr39
         refine AWp.rg tt_ok [orc pr39 []] (by kernel_rfl) (all_cons pr39 all_nil) ?_
         exact AE.tn_ ⟨r41, v38, by kernel_rfl, h⟩
        | pan x42 r41 =>
         have pr39 := c_j0 n ([41] : List UInt8) (⟨b0_.tokens, v37⟩ : PPz) _ hr39
         refine AWp.rgP tt_ok [orc pr39 []] (x := x42) (by kernel_rfl) (all_cons pr39 all_nil) ?_
         obtain rfl := Option.some.inj h
         exact AE.then_pan (post_pan (by kernel_rfl))
      | pan x17 r16 =>
       have pr14 := c_as0 n (⟨b0_.tokens, r13.2⟩ : PPz) _ hr14
       refine AWp.rgDP tt_ok mo_ok 3 [(3, [orc pr14 []])] (x := x17) (by kernel_rfl) (all_cons pr14 all_nil) (fun _ => ?_)
       obtain rfl := Option.some.inj h
       exact AE.then_pan (AE.then_pan (post_pan (by kernel_rfl)))
     ·refine AWp.skip ?_
      exact AE.tn_ ⟨r13.2, ([] : List Param), by kernel_rfl, h⟩
    ·clear h
     rintro st' ⟨v43, v44, hr', h⟩
     refine AWp.drop _ _ _ hr' (by kernel_rfl) ?_
     clear hr' st'
     unfold F_x0_j1 at h
     refine AWp.seq ?_
     obtain ⟨r45, hr45, h⟩ := bind_some h
     cases r45 with
     | ret r46 r47 =>
      have pr45 := c_b0 n 0 (⟨b0_.tokens, v43⟩ : PPz) _ hr45
      refine AWp.rg tt_ok [orc pr45 []] (by kernel_rfl) (all_cons pr45 all_nil) ?_
      refine AE.tn_ ?_
      refine AWp.seq ?_
      refine AWp.rg tt_ok [] (by kernel_rfl) all_nil ?_
      refine AE.tn_ ?_
      refine AWp.ret ?_
      obtain rfl := Option.some.inj h
      exact post_ret (by kernel_rfl)
     | pan x48 r47 =>
      have pr45 := c_b0 n 0 (⟨b0_.tokens, v43⟩ : PPz) _ hr45
      refine AWp.rgP tt_ok [orc pr45 []] (x := x48) (by kernel_rfl) (all_cons pr45 all_nil) ?_
      obtain rfl := Option.some.inj h
      exact AE.then_pan (post_pan (by kernel_rfl))
   | pan x12 r11 =>
    have pr9 := c_j0 n ([40] : List UInt8) (⟨b0_.tokens, r7⟩ : PPz) _ hr9
    refine AWp.rgP tt_ok [orc pr9 []] (x := x12) (by kernel_rfl) (all_cons pr9 all_nil) ?_
    obtain rfl := Option.some.inj h
    exact AE.then_pan (post_pan (by kernel_rfl))
  | pan x8 r7 =>
   have pr5 := c_z0 n 1 (⟨b0_.tokens, r3⟩ : PPz) _ hr5
   refine AWp.rgP tt_ok [orc pr5 []] (x := x8) (by kernel_rfl) (all_cons pr5 all_nil) ?_
   obtain rfl := Option.some.inj h
   exact AE.then_pan (post_pan (by kernel_rfl))
 | pan x4 r3 =>
  have pr1 := c_j0 n ([112, 114, 111, 99] : List UInt8) b0_ _ hr1
  refine AWp.rgP tt_ok [orc pr1 []] (x := x4) (by kernel_rfl) (all_cons pr1 all_nil) ?_
  obtain rfl := Option.some.inj h
  exact AE.then_pan (post_pan (by kernel_rfl))
theorem c_dj0 (n : Nat) (b0_ : PPz) (b1_ : Proc) (r : Pn Unit (Int × (List UInt8) × (List Param) × (List Stmt))) (h : F_dj0 n b0_ b1_ = some r) : saysOf Tryz.prog 39 [.ptr 0 0, .ptr 1 0] [] [[⟨.v (encL 4 enc_Token b0_.tokens), none⟩, ⟨.v (.int .i64 b0_.at_), none⟩], [⟨.v (.str b1_.Name), none⟩, ⟨.v (encL 2 enc_Param b1_.Params), (some 68)⟩, ⟨.v (encL 13 enc_Stmt b1_.Body), (some 79)⟩]] (Pn.on r (fun za zb => .ret (.tup []) none) (fun zx zb => .pan zx)) (Pn.on r (fun za zb => [[⟨.v (encL 4 enc_Token b0_.tokens), none⟩, ⟨.v (.int .i64 zb.1), none⟩], [⟨.v (.str zb.2.1), none⟩, ⟨.v (encL 2 enc_Param zb.2.2.1), none⟩, ⟨.v (encL 13 enc_Stmt zb.2.2.2), none⟩]]) (fun zx zb => [[⟨.v (encL 4 enc_Token b0_.tokens), none⟩, ⟨.v (.int .i64 zb.1), none⟩], [⟨.v (.str zb.2.1), none⟩, ⟨.v (encL 2 enc_Param zb.2.2.1), none⟩, ⟨.v (encL 13 enc_Stmt zb.2.2.2), none⟩]])) := by
 refine sw_ tt_ok Tryz.func39 rfl rfl rfl ?_
 unfold F_dj0 at h
 obtain ⟨r1, hr1, h⟩ := bind_some h
 cases r1 with
 | ret r2 r3 =>
  have pr1 := c_x0 n b0_ _ hr1
  refine AWp.rg tt_ok [orc pr1 []] (by kernel_rfl) (all_cons pr1 all_nil) ?_
  obtain rfl := Option.some.inj h
  exact post_normal (by kernel_rfl)
 | pan x4 r3 =>
  have pr1 := c_x0 n b0_ _ hr1
  refine AWp.rgP tt_ok [orc pr1 []] (x := x4) (by kernel_rfl) (all_cons pr1 all_nil) ?_
  obtain rfl := Option.some.inj h
  exact post_pan (by kernel_rfl)
theorem d0_ch0 (a b : Int) : DCalls Tryz.prog 72 [.ptr 0 0, .ptr 1 0] [[⟨.v (.int .i64 a), none⟩], [⟨.v (.int .i64 b), none⟩]] none (fun H' => H' = [[⟨.v (.int .i64 a), none⟩], [⟨.v (.int .i64 b), none⟩]]) := by
 refine DCalls.of_recover tt_ok Tryz.func72 rfl rfl rfl rfl rfl rfl rfl rfl rfl rfl (by kernel_rfl) (by kernel_rfl) (by kernel_rfl) ?_
 refine AWp.seq ?_
 refine AWp.rg tt_ok [] (by kernel_rfl) all_nil ?_
 refine AE.tn_ ?_
 refine AWp.cndF (by kernel_rfl) ?_
 refine AWp.skip ?_
 exact post_normal (by kernel_rfl)
theorem d1_ch0 (a b l c : Int) : DCalls Tryz.prog 72 [.ptr 0 0, .ptr 1 0] [[⟨.v (.int .i64 a), none⟩], [⟨.v (.int .i64 b), none⟩]] (some (.iface 114 (.agg [.int .i64 l, .int .i64 c]))) (fun H' => H' = [[⟨.v (.int .i64 l), none⟩], [⟨.v (.int .i64 c), none⟩]]) := by
 refine DCalls.of_recover tt_ok Tryz.func72 rfl rfl rfl rfl rfl rfl rfl rfl rfl rfl (by kernel_rfl) (by kernel_rfl) (by kernel_rfl) ?_
 refine AWp.seq ?_
 refine AWp.rg tt_ok [] (by kernel_rfl) all_nil ?_
 refine AE.tn_ ?_
 refine AWp.cndT (by kernel_rfl) ?_
 refine AWp.seq ?_
 refine AWp.rg tt_ok [] (by kernel_rfl) all_nil ?_
 refine AE.tn_ ?_
 refine AWp.seq ?_
 refine AWp.seq ?_
 refine AWp.rg tt_ok [] (by kernel_rfl) all_nil ?_
 refine AE.tn_ ?_
 refine AWp.cndF (by kernel_rfl) ?_
 refine AWp.skip ?_
 refine AE.tn_ ?_
 refine AWp.rgD tt_ok mo_ok [] (by kernel_rfl) all_nil ?_
 exact post_normal (by kernel_rfl)
theorem c_ch0 (n : Nat) (src : List UInt8) (b0_ : Proc) (r : Int × Int × (List UInt8) × (List Param) × (List Stmt)) (h : F_ch0 n src b0_ = some r) : saysOf Tryz.prog 31 [.v (.str src), .fn 39 [.ptr 0 0]] [] [[⟨.v (.str b0_.Name), none⟩, ⟨.v (encL 2 enc_Param b0_.Params), (some 68)⟩, ⟨.v (encL 13 enc_Stmt b0_.Body), (some 79)⟩]] (.ret (.tup [.v (.int .i64 r.1), .v (.int .i64 r.2.1)]) none) [[⟨.v (.str r.2.2.1), none⟩, ⟨.v (encL 2 enc_Param r.2.2.2.1), none⟩, ⟨.v (encL 13 enc_Stmt r.2.2.2.2), none⟩]] := by
 refine ACalls.of_dwp (tt := tt) Tryz.func31 rfl rfl rfl ?_
 unfold F_ch0 at h
 refine DWp.seq tt_ok ?_
 refine AWp.rg tt_ok [] (by kernel_rfl) all_nil ?_
 refine DPost_normal (DWp.seq tt_ok ?_)
 obtain ⟨r1, hr1, h⟩ := bind_some h
 have p1 := c_p0 n src _ hr1
 refine AWp.rg tt_ok [orn p1 []] (by kernel_rfl) (all_cons p1 all_nil) ?_
 refine DPost_normal (DWp.seq tt_ok ?_)
 refine AWp.seq ?_
 refine AWp.rg tt_ok [] (by kernel_rfl) all_nil ?_
 refine AE.tn_ ?_
 refine AWp.cnd h (by kernel_rfl) ?_ ?_ <;> clear h <;> intro h
 ·refine AWp.seq ?_
  refine AWp.rgD tt_ok mo_ok [] (by kernel_rfl) all_nil ?_
  refine AE.tn_ ?_
  refine AWp.ret ?_
  obtain rfl := Option.some.inj h
  exact DPost_ret (by kernel_rfl)
 ·refine AWp.skip ?_
  refine DPost_normal ?_
  refine DWp.defer tt_ok rfl rfl rfl rfl rfl rfl rfl rfl rfl (by kernel_rfl) (ds := [.ptr 1 0, .ptr 2 0]) (by kernel_rfl) (by kernel_rfl) Tryz.func72 rfl rfl (by kernel_rfl) ?_
  refine AWp.seq ?_
  refine AWp.rg tt_ok [] (by kernel_rfl) all_nil ?_
  refine AE.tn_ ?_
  refine AWp.seq ?_
  obtain ⟨r2, hr2, h⟩ := bind_some h
  have p2 := c_dj0 n (⟨r1.1, 0⟩ : PPz) b0_ _ hr2
  cases r2 with
  | ret za zm =>
   refine AWp.rg tt_ok [orc p2 []] (by kernel_rfl) (all_cons p2 all_nil) ?_
   refine AE.tn_ ?_
   refine AWp.seq ?_
   refine AWp.seq ?_
   refine AWp.rgD tt_ok mo_ok [] (by kernel_rfl) all_nil ?_
   refine AE.tn_ ?_
   refine AWp.cnd h (by kernel_rfl) ?_ ?_ <;> clear h <;> intro h
   ·obtain ⟨r3, hr3, h⟩ := bind_some h
    have p3 := c_v0 n 5 (⟨r1.1, zm.1⟩ : PPz) _ hr3
    cases r3 with
    | ret zb zc =>
     have h2 : (none : Option _) = some r := h
     cases h2
    | pan zx zc =>
     obtain ⟨lc, hlc, h⟩ := bind_some h
     obtain rfl := Option.some.inj h
     obtain rfl := asFail_some hlc
     refine AWp.rgP tt_ok [orn p3 []] (x := .iface 114 (.agg [.int .i64 lc.1, .int .i64 lc.2])) (by kernel_rfl) (all_cons p3 all_nil) ?_
     exact AE.then_pan (LPost_pan (Fin1.of [1, 2] (d1_ch0 r1.2.1 r1.2.2 lc.1 lc.2) (by kernel_rfl)))
   ·refine AWp.skip ?_
    obtain rfl := Option.some.inj h
    refine AE.tn_ ?_
    refine AWp.seq ?_
    refine AWp.rg tt_ok [] (by kernel_rfl) all_nil ?_
    refine AE.tn_ ?_
    refine AWp.ret ?_
    exact LPost_ret (Fin1.of [1, 2] (d0_ch0 0 0) (by kernel_rfl))
  | pan zx zm =>
   obtain ⟨lc, hlc, h⟩ := bind_some h
   obtain rfl := Option.some.inj h
   obtain rfl := asFail_some hlc
   refine AWp.rgP tt_ok [orc p2 []] (x := .iface 114 (.agg [.int .i64 lc.1, .int .i64 lc.2])) (by kernel_rfl) (all_cons p2 all_nil) ?_
   exact AE.then_pan (LPost_pan (Fin1.of [1, 2] (d1_ch0 r1.2.1 r1.2.2 lc.1 lc.2) (by kernel_rfl)))
theorem c_ci0 (n : Nat) (src : List UInt8) (r : Proc × Int × Int) (h : F_ci0 n src = some r) : saysOf Tryz.prog 15 [.v (.str src)] [] [] (.ret (.tup [.v (.agg [.str r.1.Name, encL 2 enc_Param r.1.Params, encL 13 enc_Stmt r.1.Body]), .v (.int .i64 r.2.1), .v (.int .i64 r.2.2)]) none) [] := by
 refine sw_ tt_ok Tryz.func15 rfl rfl rfl ?_
 unfold F_ci0 at h
 refine AWp.seq ?_
 refine AWp.rg tt_ok [] (by kernel_rfl) all_nil ?_
 refine AE.tn_ ?_
 refine AWp.seq ?_
 refine AWp.rg tt_ok [] (by kernel_rfl) all_nil ?_
 refine AE.tn_ ?_
 refine AWp.seq ?_
 obtain ⟨r1, hr1, h⟩ := bind_some h
 have pr1 := c_ch0 n src (⟨([] : List UInt8), ([] : List Param), ([] : List Stmt)⟩ : Proc) _ hr1
 refine AWp.rg tt_ok [orc pr1 []] (by kernel_rfl) (all_cons pr1 all_nil) ?_
 refine AE.tn_ ?_
 refine AWp.cut (fun st' => ∃ (v3 : Int), restr [2, 5, 6, 7] [0, 1] 2 st'.env st'.H st'.nxt = some ⟨[(2, ⟨.ptr 0 0, none⟩), (5, ⟨.ptr 1 0, none⟩), (6, ⟨.v (.int .i64 r1.1), none⟩), (7, ⟨.v (.int .i64 v3), none⟩)], [(0, [⟨.v (.str ([] : List UInt8)), none⟩, ⟨.v (encL 2 enc_Param ([] : List Param)), (some 68)⟩, ⟨.v (encL 13 enc_Stmt ([] : List Stmt)), (some 79)⟩]), (1, [⟨.v (.str r1.2.2.1), none⟩, ⟨.v (encL 2 enc_Param r1.2.2.2.1), none⟩, ⟨.v (encL 13 enc_Stmt r1.2.2.2.2), none⟩])], 2⟩ ∧ F_ci0_j1 n r1 v3 = some r) ?_ ?_
 ·refine AWp.seq ?_
  refine AWp.rg tt_ok [] (by kernel_rfl) all_nil ?_
  refine AE.tn_ ?_
  refine AWp.cnd h (by kernel_rfl) ?_ ?_ <;> clear h <;> intro h
  ·obtain ⟨r2, hr2, h⟩ := bind_some h
   have pr2 := c_cr0 n (⟨r1.2.2.1, r1.2.2.2.1, r1.2.2.2.2⟩ : Proc) _ hr2
   refine AWp.rg tt_ok [orn pr2 []] (by kernel_rfl) (all_cons pr2 all_nil) ?_
   exact AE.tn_ ⟨r2, by kernel_rfl, h⟩
  ·refine AWp.skip ?_
   exact AE.tn_ ⟨r1.2.1, by kernel_rfl, h⟩
 ·clear h
  rintro st' ⟨v3, hr', h⟩
  refine AWp.drop _ _ _ hr' (by kernel_rfl) ?_
  clear hr' st'
  unfold F_ci0_j1 at h
  refine AWp.seq ?_
  refine AWp.seq ?_
  refine AWp.rg tt_ok [] (by kernel_rfl) all_nil ?_
  refine AE.tn_ ?_
  refine AWp.cnd h (by kernel_rfl) ?_ ?_ <;> clear h <;> intro h
  ·refine AWp.seq ?_
   refine AWp.rg tt_ok [.own] (by kernel_rfl) all_nil ?_
   refine AE.tn_ ?_
   refine AWp.ret ?_
   obtain rfl := Option.some.inj h
   exact AE.tr_ (post_ret (by kernel_rfl))
  ·refine AWp.skip ?_
   refine AE.tn_ ?_
   refine AWp.seq ?_
   refine AWp.rg tt_ok [] (by kernel_rfl) all_nil ?_
   refine AE.tn_ ?_
   refine AWp.ret ?_
   obtain rfl := Option.some.inj h
   exact post_ret (by kernel_rfl)
theorem c_ac0 (n : Nat) (l : List Proc) (r : Int) (h : F_ac0 n l = some r) : saysOf Tryz.prog 45 [.v (encL 3 enc_Proc l)] [] [] (.ret (.v (.int .i64 r)) none) [] := by
 refine sw_ tt_ok Tryz.func45 rfl rfl rfl ?_
 unfold F_ac0 at h
 refine AWp.seq ?_
 refine AWp.rg tt_ok [] (by kernel_rfl) all_nil ?_
 refine AE.tn_ ?_
 refine AWp.seq ?_
 refine AWp.seq ?_
 refine AWp.rg tt_ok [] (by kernel_rfl) all_nil ?_
 refine AE.tn_ ?_
 refine AWp.cnd h (by kernel_rfl) ?_ ?_ <;> clear h <;> intro h
 ·refine AWp.seq ?_
  refine AWp.rg tt_ok [] (by kernel_rfl) all_nil ?_
  refine AE.tn_ ?_
  refine AWp.ret ?_
  obtain rfl := Option.some.inj h
  exact AE.tr_ (post_ret (by kernel_rfl))
 ·refine AWp.skip ?_
  refine AE.tn_ ?_
  refine AWp.cut (fun st' => restr [] [] 0 st'.env st'.H st'.nxt = some ⟨[], [], 0⟩ ∧ F_ac0_j1 n = some r) ?_ ?_
  ·refine AWp.seq ?_
   refine AWp.rg tt_ok [] (by kernel_rfl) all_nil ?_
   refine AE.tn_ ?_
   refine AWp.block ?_
   refine AWp.loop (σ := Int) (fun zm zs zst => restr [0, 11, 12, 13] [] 0 zst.env zst.H zst.nxt = some ⟨[(0, ⟨.v (encL 3 enc_Proc l), none⟩), (11, ⟨.v (encL 3 enc_Proc l), none⟩), (12, ⟨.v (.int .i64 ((l.length : Nat) : Int)), none⟩), (13, ⟨.v (.int .i64 zs), none⟩)], [], 0⟩ ∧ F_ac0_l2 n l zm zs = some r) ?_ (n := n) (s := 0) ⟨by kernel_rfl, h⟩
   clear h
   rintro m2 v11 st' ⟨hr', h⟩
   cases m2 with
   | zero =>
    have h2 : (none : Option _) = some r := h
    cases h2
   | succ m2 =>
    refine ⟨m2, rfl, AWp.drop _ _ _ hr' (by kernel_rfl) ?_⟩
    clear hr' st'
    replace h : F_ac0_b2 n l (F_ac0_l2 n l m2) v11 = some r := h
    unfold F_ac0_b2 at h
    refine AWp.seq ?_
    refine AWp.rg tt_ok [] (by kernel_rfl) all_nil ?_
    refine AE.tn_ ?_
    refine AWp.seq ?_
    refine AWp.cnd h (by kernel_rfl) ?_ ?_ <;> clear h <;> intro h
    ·refine AWp.skip ?_
     refine AE.tn_ ?_
     refine AWp.cut (fun st' => restr [0, 11, 12, 13] [] 0 st'.env st'.H st'.nxt = some ⟨[(0, ⟨.v (encL 3 enc_Proc l), none⟩), (11, ⟨.v (encL 3 enc_Proc l), none⟩), (12, ⟨.v (.int .i64 ((l.length : Nat) : Int)), none⟩), (13, ⟨.v (.int .i64 v11), none⟩)], [], 0⟩ ∧ F_ac0_j3 n (F_ac0_l2 n l m2) l v11 = some r) ?_ ?_
     ·refine AWp.block ?_
      refine AWp.seq ?_
      obtain ⟨g12, h⟩ := ass_some h
      refine AWp.rg tt_ok [.raw] (by kernel_rfl) (all_cons g12 all_nil) ?_
      refine AE.tn_ ?_
      refine AWp.seq ?_
      refine AWp.seq ?_
      obtain ⟨r13, hr13, h⟩ := bind_some h
      have pr13 := c_cr0 n (l.getD (v11).toNat default) _ hr13
      refine AWp.rg tt_ok [orn pr13 []] (by kernel_rfl) (all_cons pr13 all_nil) ?_
      refine AE.tn_ ?_
      refine AWp.seq ?_
      refine AWp.rg tt_ok [] (by kernel_rfl) all_nil ?_
      refine AE.tn_ ?_
      refine AWp.cnd h (by kernel_rfl) ?_ ?_ <;> clear h <;> intro h
      ·refine AWp.seq ?_
       refine AWp.rg tt_ok [] (by kernel_rfl) all_nil ?_
       refine AE.tn_ ?_
       refine AWp.ret ?_
       obtain rfl := Option.some.inj h
       exact AE.tr_ (AE.br_ (AE.tr_ (AE.tr_ (AE.br_ (AE.tr_ (post_ret (by kernel_rfl)))))))
      ·refine AWp.skip ?_
       refine AE.tn_ ?_
       refine AWp.seq ?_
       obtain ⟨g14, h⟩ := ass_some h
       refine AWp.rg tt_ok [.val (encL 3 enc_Proc (l.take (v11).toNat))] (by kernel_rfl) (all_cons (vimp_take (k := 3) (e := enc_Proc) l v11 (upB_spec g14)) (all_cons g14 all_nil)) ?_
       refine AE.tn_ ?_
       refine AWp.block ?_
       refine AWp.loop (σ := Int) (fun zm zs zst => restr [0, 4, 11, 12, 13, 25, 26, 27] [0] 1 zst.env zst.H zst.nxt = some ⟨[(0, ⟨.v (encL 3 enc_Proc l), none⟩), (4, ⟨.ptr 0 0, none⟩), (11, ⟨.v (encL 3 enc_Proc l), none⟩), (12, ⟨.v (.int .i64 ((l.length : Nat) : Int)), none⟩), (13, ⟨.v (.int .i64 v11), none⟩), (25, ⟨.v (encL 3 enc_Proc (l.take (v11).toNat)), none⟩), (26, ⟨.v (.int .i64 (((l.take (v11).toNat).length : Nat) : Int)), none⟩), (27, ⟨.v (.int .i64 zs), none⟩)], [(0, [⟨.v (.str ((l.getD (v11).toNat default).Name)), none⟩, ⟨.v (encL 2 enc_Param ((l.getD (v11).toNat default).Params)), none⟩, ⟨.v (encL 13 enc_Stmt ((l.getD (v11).toNat default).Body)), none⟩])], 1⟩ ∧ F_ac0_l4 n (F_ac0_l2 n l m2) l v11 zm zs = some r) ?_ (n := n) (s := 0) ⟨by kernel_rfl, h⟩
       clear h
       rintro m4 v17 st' ⟨hr', h⟩
       cases m4 with
       | zero =>
        have h2 : (none : Option _) = some r := h
        cases h2
       | succ m4 =>
        refine ⟨m4, rfl, AWp.drop _ _ _ hr' (by kernel_rfl) ?_⟩
        clear hr' st'
        replace h : F_ac0_b4 n (F_ac0_l2 n l m2) l v11 (F_ac0_l4 n (F_ac0_l2 n l m2) l v11 m4) v17 = some r := h
        unfold F_ac0_b4 at h
        refine AWp.seq ?_
        refine AWp.rg tt_ok [] (by kernel_rfl) all_nil ?_
        refine AE.tn_ ?_
        refine AWp.seq ?_
        refine AWp.cnd h (by kernel_rfl) ?_ ?_ <;> clear h <;> intro h
        ·refine AWp.skip ?_
         refine AE.tn_ ?_
         refine AWp.seq ?_
         refine AWp.block ?_
         refine AWp.seq ?_
         obtain ⟨g18, h⟩ := ass_some h
         refine AWp.rg tt_ok [.raw] (by kernel_rfl) (all_cons g18 all_nil) ?_
         refine AE.tn_ ?_
         refine AWp.seq ?_
         refine AWp.rg tt_ok [] (by kernel_rfl) all_nil ?_
         refine AE.tn_ ?_
         refine AWp.cnd h (by kernel_rfl) ?_ ?_ <;> clear h <;> intro h
         ·refine AWp.seq ?_
          refine AWp.rg tt_ok [] (by kernel_rfl) all_nil ?_
          refine AE.tn_ ?_
          refine AWp.ret ?_
          obtain rfl := Option.some.inj h
          exact AE.br_ (AE.tr_ (AE.tr_ (AE.br_ (AE.br_ (AE.tr_ (AE.tr_ (AE.br_ (AE.tr_ (post_ret (by kernel_rfl))))))))))
         ·refine AWp.skip ?_
          refine AE.bn_ (AE.tn_ ?_)
          refine AWp.rg tt_ok [] (by kernel_rfl) all_nil ?_
          exact AE.tn_ ⟨(IntKind.i64.wrap (v17 + 1)), by kernel_rfl, h⟩
        ·refine AWp.exit ?_
         exact AE.tx_ (AE.tx_ (AE.block_hit (AE.bn_ (AE.tn_ ⟨by kernel_rfl, h⟩))))
     ·clear h
      rintro st' ⟨hr', h⟩
      refine AWp.drop _ _ _ hr' (by kernel_rfl) ?_
      clear hr' st'
      unfold F_ac0_j3 at h
      refine AWp.rg tt_ok [] (by kernel_rfl) all_nil ?_
      exact AE.tn_ ⟨(IntKind.i64.wrap (v11 + 1)), by kernel_rfl, h⟩
    ·refine AWp.exit ?_
     exact AE.tx_ (AE.tx_ (AE.block_hit (AE.tn_ ⟨by kernel_rfl, h⟩)))
  ·clear h
   rintro st' ⟨hr', h⟩
   refine AWp.drop _ _ _ hr' (by kernel_rfl) ?_
   clear hr' st'
   unfold F_ac0_j1 at h
   refine AWp.seq ?_
   refine AWp.rg tt_ok [] (by kernel_rfl) all_nil ?_
   refine AE.tn_ ?_
   refine AWp.ret ?_
   obtain rfl := Option.some.inj h
   exact post_ret (by kernel_rfl)
theorem c_au0 (n : Nat) (b0_ : PPz) (b1_ : List Proc) (r : Pn Unit (Int × (List Proc))) (h : F_au0 n b0_ b1_ = some r) : saysOf Tryz.prog 44 [.ptr 0 0, .ptr 1 0] [] [[⟨.v (encL 4 enc_Token b0_.tokens), none⟩, ⟨.v (.int .i64 b0_.at_), none⟩], [⟨.v (encL 3 enc_Proc b1_), (some 34)⟩]] (Pn.on r (fun za zb => .ret (.tup []) none) (fun zx zb => .pan zx)) (Pn.on r (fun za zb => [[⟨.v (encL 4 enc_Token b0_.tokens), none⟩, ⟨.v (.int .i64 zb.1), none⟩], [⟨.v (encL 3 enc_Proc zb.2), (some 34)⟩]]) (fun zx zb => [[⟨.v (encL 4 enc_Token b0_.tokens), none⟩, ⟨.v (.int .i64 zb.1), none⟩], [⟨.v (encL 3 enc_Proc zb.2), none⟩]])) := by
 refine sw_ tt_ok Tryz.func44 rfl rfl rfl ?_
 unfold F_au0 at h
 refine AWp.block ?_
 refine AWp.loop (σ := Int × (List Proc)) (fun zm zs zst => restr [0, 1] [0, 1] 2 zst.env zst.H zst.nxt = some ⟨[(0, ⟨.ptr 0 0, none⟩), (1, ⟨.ptr 1 0, none⟩)], [(0, [⟨.v (encL 4 enc_Token b0_.tokens), none⟩, ⟨.v (.int .i64 zs.1), none⟩]), (1, [⟨.v (encL 3 enc_Proc zs.2), (some 34)⟩])], 2⟩ ∧ F_au0_l1 n b0_ zm zs.1 zs.2 = some r) ?_ (n := n) (s := (b0_.at_, b1_)) ⟨by kernel_rfl, h⟩
 clear h
 rintro m1 ⟨v8, v9⟩ st' ⟨hr', h⟩
 cases m1 with
 | zero =>
  have h2 : (none : Option _) = some r := h
  cases h2
 | succ m1 =>
  refine ⟨m1, rfl, AWp.drop _ _ _ hr' (by kernel_rfl) ?_⟩
  clear hr' st'
  replace h : F_au0_b1 n b0_ (F_au0_l1 n b0_ m1) v8 v9 = some r := h
  unfold F_au0_b1 at h
  refine AWp.seq ?_
  refine AWp.seq ?_
  refine AWp.rgD tt_ok mo_ok [] (by kernel_rfl) all_nil ?_
  refine AE.tn_ ?_
  refine AWp.cnd h (by kernel_rfl) ?_ ?_ <;> clear h <;> intro h
  ·refine AWp.skip ?_
   refine AE.tn_ ?_
   refine AWp.block ?_
   obtain ⟨r10, hr10, h⟩ := bind_some h
   cases r10 with
   | ret r11 r12 =>
    have pr10 := c_x0 n (⟨b0_.tokens, v8⟩ : PPz) _ hr10
    obtain ⟨g14, h⟩ := ass_some h
    refine AWp.rgD tt_ok mo_ok [(0, [.own]), (2, [orc pr10 []]), (3, [.val (encL 3 enc_Proc ([r11] : List Proc))]), (4, [.val (encL 3 enc_Proc (v9 ++ ([r11] : List Proc)))])] (by kernel_rfl) (all_cons (vimp_app (k := 3) (e := enc_Proc) v9 ([r11] : List Proc)) (all_cons g14 (all_cons (vimp_litm (k := 3) (e := enc_Proc) ([r11] : List Proc)) (all_cons pr10 all_nil)))) ?_
    exact AE.bn_ (AE.tn_ ⟨(r12, (v9 ++ ([r11] : List Proc))), by kernel_rfl, h⟩)
   | pan x13 r12 =>
    have pr10 := c_x0 n (⟨b0_.tokens, v8⟩ : PPz) _ hr10
    refine AWp.rgDP tt_ok mo_ok 2 [(2, [orc pr10 []])] (x := x13) (by kernel_rfl) (all_cons pr10 all_nil) (fun _ => ?_)
    obtain rfl := Option.some.inj h
    exact AE.block_pan (AE.then_pan (AE.block_pan (post_pan (by kernel_rfl))))
  ·refine AWp.exit ?_
   obtain rfl := Option.some.inj h
   exact AE.tx_ (AE.tx_ (AE.block_hit (post_normal (by kernel_rfl))))
theorem d0_cc0 (a b : Int) : DCalls Tryz.prog 72 [.ptr 0 0, .ptr 1 0] [[⟨.v (.int .i64 a), none⟩], [⟨.v (.int .i64 b), none⟩]] none (fun H' => H' = [[⟨.v (.int .i64 a), none⟩], [⟨.v (.int .i64 b), none⟩]]) := by
 refine DCalls.of_recover tt_ok Tryz.func72 rfl rfl rfl rfl rfl rfl rfl rfl rfl rfl (by kernel_rfl) (by kernel_rfl) (by kernel_rfl) ?_
 refine AWp.seq ?_
 refine AWp.rg tt_ok [] (by kernel_rfl) all_nil ?_
 refine AE.tn_ ?_
 refine AWp.cndF (by kernel_rfl) ?_
 refine AWp.skip ?_
 exact post_normal (by kernel_rfl)
theorem d1_cc0 (a b l c : Int) : DCalls Tryz.prog 72 [.ptr 0 0, .ptr 1 0] [[⟨.v (.int .i64 a), none⟩], [⟨.v (.int .i64 b), none⟩]] (some (.iface 114 (.agg [.int .i64 l, .int .i64 c]))) (fun H' => H' = [[⟨.v (.int .i64 l), none⟩], [⟨.v (.int .i64 c), none⟩]]) := by
 refine DCalls.of_recover tt_ok Tryz.func72 rfl rfl rfl rfl rfl rfl rfl rfl rfl rfl (by kernel_rfl) (by kernel_rfl) (by kernel_rfl) ?_
 refine AWp.seq ?_
 refine AWp.rg tt_ok [] (by kernel_rfl) all_nil ?_
 refine AE.tn_ ?_
 refine AWp.cndT (by kernel_rfl) ?_
 refine AWp.seq ?_
 refine AWp.rg tt_ok [] (by kernel_rfl) all_nil ?_
 refine AE.tn_ ?_
 refine AWp.seq ?_
 refine AWp.seq ?_
 refine AWp.rg tt_ok [] (by kernel_rfl) all_nil ?_
 refine AE.tn_ ?_
 refine AWp.cndF (by kernel_rfl) ?_
 refine AWp.skip ?_
 refine AE.tn_ ?_
 refine AWp.rgD tt_ok mo_ok [] (by kernel_rfl) all_nil ?_
 exact post_normal (by kernel_rfl)
theorem c_cc0 (n : Nat) (src : List UInt8) (b0_ : List Proc) (r : Int × Int × (List Proc)) (h : F_cc0 n src b0_ = some r) : saysOf Tryz.prog 31 [.v (.str src), .fn 44 [.ptr 0 0]] [] [[⟨.v (encL 3 enc_Proc b0_), (some 34)⟩]] (.ret (.tup [.v (.int .i64 r.1), .v (.int .i64 r.2.1)]) none) [[⟨.v (encL 3 enc_Proc r.2.2), none⟩]] := by
 refine ACalls.of_dwp (tt := tt) Tryz.func31 rfl rfl rfl ?_
 unfold F_cc0 at h
 refine DWp.seq tt_ok ?_
 refine AWp.rg tt_ok [] (by kernel_rfl) all_nil ?_
 refine DPost_normal (DWp.seq tt_ok ?_)
 obtain ⟨r1, hr1, h⟩ := bind_some h
 have p1 := c_p0 n src _ hr1
 refine AWp.rg tt_ok [orn p1 []] (by kernel_rfl) (all_cons p1 all_nil) ?_
 refine DPost_normal (DWp.seq tt_ok ?_)
 refine AWp.seq ?_
 refine AWp.rg tt_ok [] (by kernel_rfl) all_nil ?_
 refine AE.tn_ ?_
 refine AWp.cnd h (by kernel_rfl) ?_ ?_ <;> clear h <;> intro h
 ·refine AWp.seq ?_
  refine AWp.rgD tt_ok mo_ok [] (by kernel_rfl) all_nil ?_
  refine AE.tn_ ?_
  refine AWp.ret ?_
  obtain rfl := Option.some.inj h
  exact DPost_ret (by kernel_rfl)
 ·refine AWp.skip ?_
  refine DPost_normal ?_
  refine DWp.defer tt_ok rfl rfl rfl rfl rfl rfl rfl rfl rfl (by kernel_rfl) (ds := [.ptr 1 0, .ptr 2 0]) (by kernel_rfl) (by kernel_rfl) Tryz.func72 rfl rfl (by kernel_rfl) ?_
  refine AWp.seq ?_
  refine AWp.rg tt_ok [] (by kernel_rfl) all_nil ?_
  refine AE.tn_ ?_
  refine AWp.seq ?_
  obtain ⟨r2, hr2, h⟩ := bind_some h
  have p2 := c_au0 n (⟨r1.1, 0⟩ : PPz) b0_ _ hr2
  cases r2 with
  | ret za zm =>
   refine AWp.rg tt_ok [orc p2 []] (by kernel_rfl) (all_cons p2 all_nil) ?_
   refine AE.tn_ ?_
   refine AWp.seq ?_
   refine AWp.seq ?_
   refine AWp.rgD tt_ok mo_ok [] (by kernel_rfl) all_nil ?_
   refine AE.tn_ ?_
   refine AWp.cnd h (by kernel_rfl) ?_ ?_ <;> clear h <;> intro h
   ·obtain ⟨r3, hr3, h⟩ := bind_some h
    have p3 := c_v0 n 5 (⟨r1.1, zm.1⟩ : PPz) _ hr3
    cases r3 with
    | ret zb zc =>
     have h2 : (none : Option _) = some r := h
     cases h2
    | pan zx zc =>
     obtain ⟨lc, hlc, h⟩ := bind_some h
     obtain rfl := Option.some.inj h
     obtain rfl := asFail_some hlc
     refine AWp.rgP tt_ok [orn p3 []] (x := .iface 114 (.agg [.int .i64 lc.1, .int .i64 lc.2])) (by kernel_rfl) (all_cons p3 all_nil) ?_
     exact AE.then_pan (LPost_pan (Fin1.of [1, 2] (d1_cc0 r1.2.1 r1.2.2 lc.1 lc.2) (by kernel_rfl)))
   ·refine AWp.skip ?_
    obtain rfl := Option.some.inj h
    refine AE.tn_ ?_
    refine AWp.seq ?_
    refine AWp.rg tt_ok [] (by kernel_rfl) all_nil ?_
    refine AE.tn_ ?_
    refine AWp.ret ?_
    exact LPost_ret (Fin1.of [1, 2] (d0_cc0 0 0) (by kernel_rfl))
  | pan zx zm =>
   obtain ⟨lc, hlc, h⟩ := bind_some h
   obtain rfl := Option.some.inj h
   obtain rfl := asFail_some hlc
   refine AWp.rgP tt_ok [orc p2 []] (x := .iface 114 (.agg [.int .i64 lc.1, .int .i64 lc.2])) (by kernel_rfl) (all_cons p2 all_nil) ?_
   exact AE.then_pan (LPost_pan (Fin1.of [1, 2] (d1_cc0 r1.2.1 r1.2.2 lc.1 lc.2) (by kernel_rfl)))
theorem c_bk0 (n : Nat) (src : List UInt8) (r : (List Proc) × Int × Int) (h : F_bk0 n src = some r) : saysOf Tryz.prog 18 [.v (.str src)] [] [] (.ret (.tup [.v (encL 3 enc_Proc r.1), .v (.int .i64 r.2.1), .v (.int .i64 r.2.2)]) none) [] := by
 refine sw_ tt_ok Tryz.func18 rfl rfl rfl ?_
 unfold F_bk0 at h
 refine AWp.seq ?_
 refine AWp.rg tt_ok [] (by kernel_rfl) all_nil ?_
 refine AE.tn_ ?_
 refine AWp.seq ?_
 refine AWp.rg tt_ok [] (by kernel_rfl) all_nil ?_
 refine AE.tn_ ?_
 refine AWp.seq ?_
 obtain ⟨r1, hr1, h⟩ := bind_some h
 have pr1 := c_cc0 n src ([] : List Proc) _ hr1
 refine AWp.rg tt_ok [orc pr1 []] (by kernel_rfl) (all_cons pr1 all_nil) ?_
 refine AE.tn_ ?_
 refine AWp.cut (fun st' => ∃ (v3 : Int), restr [5, 6, 7] [0] 1 st'.env st'.H st'.nxt = some ⟨[(5, ⟨.ptr 0 0, none⟩), (6, ⟨.v (.int .i64 r1.1), none⟩), (7, ⟨.v (.int .i64 v3), none⟩)], [(0, [⟨.v (encL 3 enc_Proc r1.2.2), none⟩])], 1⟩ ∧ F_bk0_j1 n r1 v3 = some r) ?_ ?_
 ·refine AWp.seq ?_
  refine AWp.rg tt_ok [] (by kernel_rfl) all_nil ?_
  refine AE.tn_ ?_
  refine AWp.cnd h (by kernel_rfl) ?_ ?_ <;> clear h <;> intro h
  ·obtain ⟨r2, hr2, h⟩ := bind_some h
   have pr2 := c_ac0 n r1.2.2 _ hr2
   refine AWp.rg tt_ok [orn pr2 []] (by kernel_rfl) (all_cons pr2 all_nil) ?_
   exact AE.tn_ ⟨r2, by kernel_rfl, h⟩
  ·refine AWp.skip ?_
   exact AE.tn_ ⟨r1.2.1, by kernel_rfl, h⟩
 ·clear h
  rintro st' ⟨v3, hr', h⟩
  refine AWp.drop _ _ _ hr' (by kernel_rfl) ?_
  clear hr' st'
  unfold F_bk0_j1 at h
  refine AWp.seq ?_
  refine AWp.seq ?_
  refine AWp.rg tt_ok [] (by kernel_rfl) all_nil ?_
  refine AE.tn_ ?_
  refine AWp.cnd h (by kernel_rfl) ?_ ?_ <;> clear h <;> intro h
  ·refine AWp.seq ?_
   refine AWp.rg tt_ok [] (by kernel_rfl) all_nil ?_
   refine AE.tn_ ?_
   refine AWp.ret ?_
   obtain rfl := Option.some.inj h
   exact AE.tr_ (post_ret (by kernel_rfl))
  ·refine AWp.skip ?_
   refine AE.tn_ ?_
   refine AWp.seq ?_
   refine AWp.rg tt_ok [] (by kernel_rfl) all_nil ?_
   refine AE.tn_ ?_
   refine AWp.ret ?_
   obtain rfl := Option.some.inj h
   exact post_ret (by kernel_rfl)
theorem c_co0 (n : Nat) (r : Bool) (h : F_co0 n = some r) : saysOf Tryz.prog 11 [] [] [] (.ret (.v (.bool r)) none) [] := by
 refine sw_ tt_ok Tryz.func11 rfl rfl rfl ?_
 unfold F_co0 at h
 refine AWp.seq ?_
 refine AWp.rg tt_ok [] (by kernel_rfl) all_nil ?_
 refine AE.tn_ ?_
 refine AWp.seq ?_
 obtain ⟨r1, hr1, h⟩ := bind_some h
 have pr1 := c_ca0 n ([49, 32, 43, 32, 50, 32, 42, 32, 120] : List UInt8) _ hr1
 refine AWp.rg tt_ok [orn pr1 []] (by kernel_rfl) (all_cons pr1 all_nil) ?_
 refine AE.tn_ ?_
 refine AWp.seq ?_
 obtain ⟨r2, hr2, h⟩ := bind_some h
 have pr2 := c_ca0 n ([97, 32, 60, 32, 98, 32, 60, 32, 99] : List UInt8) _ hr2
 refine AWp.rg tt_ok [orn pr2 []] (by kernel_rfl) (all_cons pr2 all_nil) ?_
 refine AE.tn_ ?_
 refine AWp.seq ?_
 obtain ⟨r3, hr3, h⟩ := bind_some h
 have pr3 := c_ca0 n ([49, 32, 43] : List UInt8) _ hr3
 refine AWp.rg tt_ok [orn pr3 []] (by kernel_rfl) (all_cons pr3 all_nil) ?_
 refine AE.tn_ ?_
 refine AWp.seq ?_
 obtain ⟨r4, hr4, h⟩ := bind_some h
 have pr4 := c_ci0 n ([112, 114, 111, 99, 32, 112, 40, 41, 32, 123, 10, 32, 32, 101, 109, 105, 116, 32, 120, 10, 125] : List UInt8) _ hr4
 refine AWp.rg tt_ok [orn pr4 []] (by kernel_rfl) (all_cons pr4 all_nil) ?_
 refine AE.tn_ ?_
 refine AWp.seq ?_
 obtain ⟨r5, hr5, h⟩ := bind_some h
 have pr5 := c_bk0 n ([] : List UInt8) _ hr5
 refine AWp.rg tt_ok [orn pr5 []] (by kernel_rfl) (all_cons pr5 all_nil) ?_
 refine AE.tn_ ?_
 refine AWp.seq ?_
 obtain ⟨r6, hr6, h⟩ := bind_some h
 have pr6 := c_ci0 n ([112, 114, 111, 99, 32, 112, 40, 41, 32, 123, 32, 97, 98, 111, 114, 116, 32, 49, 48, 48, 48, 59, 32, 125] : List UInt8) _ hr6
 refine AWp.rg tt_ok [orn pr6 []] (by kernel_rfl) (all_cons pr6 all_nil) ?_
 refine AE.tn_ ?_
 refine AWp.seq ?_
 obtain ⟨g7, h⟩ := ass_some h
 refine AWp.rg tt_ok [orv (enc_vimp_Expr (r1.1.Args.getD 1 default))] (by kernel_rfl) (all_cons (fun (_ : (bif (decide (r1.1.Op = 4)) then (decide (((r1.1.Args.length : Nat) : Int) = 2)) else false) = true) => (enc_vimp_Expr (r1.1.Args.getD 1 default))) (all_cons (orT g7) all_nil)) ?_
 refine AE.tn_ ?_
 refine AWp.ret ?_
 obtain rfl := Option.some.inj h
 exact post_ret (by kernel_rfl)
theorem cB_ref08_EqualExpr (n : Nat) (f_r0 : Expr → Expr → Option Bool) (i_r0 : ∀ (a : Expr) (b : Expr) (r : Bool), f_r0 a b = some r → saysOf Tryz.prog 14 [.v (.agg [.int .i64 a.Op, .int .i64 a.N, .str a.S, encL 4 enc_Expr a.Args]), .v (.agg [.int .i64 b.Op, .int .i64 b.N, .str b.S, encL 4 enc_Expr b.Args])] [] [] (.ret (.v (.bool r)) none) []) (a : Expr) (b : Expr) (r : Bool) (h : B_r0 n f_r0 a b = some r) : saysOf Tryz.prog 14 [.v (.agg [.int .i64 a.Op, .int .i64 a.N, .str a.S, encL 4 enc_Expr a.Args]), .v (.agg [.int .i64 b.Op, .int .i64 b.N, .str b.S, encL 4 enc_Expr b.Args])] [] [] (.ret (.v (.bool r)) none) [] := by
 refine sw_ tt_ok Tryz.func14 rfl rfl rfl ?_
 unfold B_r0 at h
 refine AWp.seq ?_
 refine AWp.rg tt_ok [] (by kernel_rfl) all_nil ?_
 refine AE.tn_ ?_
 refine AWp.seq ?_
 refine AWp.seq ?_
 refine AWp.rg tt_ok [] (by kernel_rfl) all_nil ?_
 refine AE.tn_ ?_
 refine AWp.cnd h (by kernel_rfl) ?_ ?_ <;> clear h <;> intro h
 ·refine AWp.seq ?_
  refine AWp.rg tt_ok [] (by kernel_rfl) all_nil ?_
  refine AE.tn_ ?_
  refine AWp.ret ?_
  obtain rfl := Option.some.inj h
  exact AE.tr_ (post_ret (by kernel_rfl))
 ·refine AWp.skip ?_
  refine AE.tn_ ?_
  refine AWp.cut (fun st' => restr [] [] 0 st'.env st'.H st'.nxt = some ⟨[], [], 0⟩ ∧ F_r0_j1 n f_r0 = some r) ?_ ?_
  ·refine AWp.seq ?_
   refine AWp.rg tt_ok [] (by kernel_rfl) all_nil ?_
   refine AE.tn_ ?_
   refine AWp.block ?_
   refine AWp.loop (σ := Int) (fun zm zs zst => restr [2, 3, 5] [0, 1] 2 zst.env zst.H zst.nxt = some ⟨[(2, ⟨.ptr 0 0, none⟩), (3, ⟨.ptr 1 0, none⟩), (5, ⟨.v (.int .i64 zs), none⟩)], [(0, [⟨.v (.int .i64 a.Op), none⟩, ⟨.v (.int .i64 a.N), none⟩, ⟨.v (.str a.S), none⟩, ⟨.v (encL 4 enc_Expr a.Args), none⟩]), (1, [⟨.v (.int .i64 b.Op), none⟩, ⟨.v (.int .i64 b.N), none⟩, ⟨.v (.str b.S), none⟩, ⟨.v (encL 4 enc_Expr b.Args), none⟩])], 2⟩ ∧ F_r0_l2 n f_r0 a b zm zs = some r) ?_ (n := n) (s := 0) ⟨by kernel_rfl, h⟩
   clear h
   rintro m2 v6 st' ⟨hr', h⟩
   cases m2 with
   | zero =>
    have h2 : (none : Option _) = some r := h
    cases h2
   | succ m2 =>
    refine ⟨m2, rfl, AWp.drop _ _ _ hr' (by kernel_rfl) ?_⟩
    clear hr' st'
    replace h : F_r0_b2 n f_r0 a b (F_r0_l2 n f_r0 a b m2) v6 = some r := h
    unfold F_r0_b2 at h
    refine AWp.seq ?_
    refine AWp.seq ?_
    refine AWp.rg tt_ok [] (by kernel_rfl) all_nil ?_
    refine AE.tn_ ?_
    refine AWp.cnd h (by kernel_rfl) ?_ ?_ <;> clear h <;> intro h
    ·refine AWp.skip ?_
     refine AE.tn_ ?_
     refine AWp.seq ?_
     refine AWp.block ?_
     refine AWp.seq ?_
     obtain ⟨g7, h⟩ := ass_some h
     obtain ⟨g8, h⟩ := ass_some h
     obtain ⟨r9, hr9, h⟩ := bind_some h
     have pr9 := i_r0 (a.Args.getD (v6).toNat default) (b.Args.getD (v6).toNat default) _ hr9
     refine AWp.rgD tt_ok mo_ok [(3, [orv (enc_vimp_Expr (a.Args.getD (v6).toNat default))]), (8, [orv (enc_vimp_Expr (b.Args.getD (v6).toNat default))]), (10, [orn pr9 []])] (by kernel_rfl) (all_cons pr9 (all_cons (enc_vimp_Expr (b.Args.getD (v6).toNat default)) (all_cons g8 (all_cons (enc_vimp_Expr (a.Args.getD (v6).toNat default)) (all_cons g7 all_nil))))) ?_
     refine AE.tn_ ?_
     refine AWp.cnd h (by kernel_rfl) ?_ ?_ <;> clear h <;> intro h
     ·refine AWp.seq ?_
      refine AWp.rg tt_ok [] (by kernel_rfl) all_nil ?_
      refine AE.tn_ ?_
      refine AWp.ret ?_
      obtain rfl := Option.some.inj h
      exact AE.br_ (AE.tr_ (AE.tr_ (AE.br_ (AE.tr_ (post_ret (by kernel_rfl))))))
     ·refine AWp.skip ?_
      refine AE.bn_ (AE.tn_ ?_)
      refine AWp.rg tt_ok [] (by kernel_rfl) all_nil ?_
      exact AE.tn_ ⟨(IntKind.i64.wrap (v6 + 1)), by kernel_rfl, h⟩
    ·refine AWp.exit ?_
     exact AE.tx_ (AE.tx_ (AE.block_hit (AE.tn_ ⟨by kernel_rfl, h⟩)))
  ·clear h
   rintro st' ⟨hr', h⟩
   refine AWp.drop _ _ _ hr' (by kernel_rfl) ?_
   clear hr' st'
   unfold F_r0_j1 at h
   refine AWp.seq ?_
   refine AWp.rg tt_ok [] (by kernel_rfl) all_nil ?_
   refine AE.tn_ ?_
   refine AWp.ret ?_
   obtain rfl := Option.some.inj h
   exact post_ret (by kernel_rfl)
theorem c_r0 (n : Nat) : ∀ (a : Expr) (b : Expr) (r : Bool), F_r0 n a b = some r → saysOf Tryz.prog 14 [.v (.agg [.int .i64 a.Op, .int .i64 a.N, .str a.S, encL 4 enc_Expr a.Args]), .v (.agg [.int .i64 b.Op, .int .i64 b.N, .str b.S, encL 4 enc_Expr b.Args])] [] [] (.ret (.v (.bool r)) none) [] := by
 induction n with
 | zero => intro a b r h; have h2 : (none : Option _) = some r := h; cases h2
 | succ m ih => intro a b r h; exact cB_ref08_EqualExpr m (F_r0 m) ih a b r h
theorem c_av0 (n : Nat) (s : List UInt8) (at_ : Int) (r : Int) (h : F_av0 n s at_ = some r) : saysOf Tryz.prog 79 [.v (.str s), .v (.int .i64 at_)] [] [] (.ret (.v (.int .i64 r)) none) [] := by
 refine sw_ tt_ok Tryz.func79 rfl rfl rfl ?_
 unfold F_av0 at h
 refine AWp.seq ?_
 refine AWp.rg tt_ok [] (by kernel_rfl) all_nil ?_
 refine AE.tn_ ?_
 refine AWp.seq ?_
 refine AWp.rg tt_ok [] (by kernel_rfl) all_nil ?_
 refine AE.tn_ ?_
 refine AWp.cut (fun st' => ∃ (v11 : Int), restr [5] [] 0 st'.env st'.H st'.nxt = some ⟨[(5, ⟨.v (.int .i64 v11), none⟩)], [], 0⟩ ∧ F_av0_j1 n v11 = some r) ?_ ?_
 ·refine AWp.seq ?_
  refine AWp.rg tt_ok [] (by kernel_rfl) all_nil ?_
  refine AE.tn_ ?_
  refine AWp.block ?_
  refine AWp.loop (σ := Int × Int) (fun zm zs zst => restr [0, 1, 5, 6] [] 0 zst.env zst.H zst.nxt = some ⟨[(0, ⟨.v (.str s), none⟩), (1, ⟨.v (.int .i64 at_), none⟩), (5, ⟨.v (.int .i64 zs.1), none⟩), (6, ⟨.v (.int .i64 zs.2), none⟩)], [], 0⟩ ∧ F_av0_l2 n s at_ zm zs.1 zs.2 = some r) ?_ (n := n) (s := (0, 0)) ⟨by kernel_rfl, h⟩
  clear h
  rintro m2 ⟨v5, v6⟩ st' ⟨hr', h⟩
  cases m2 with
  | zero =>
   have h2 : (none : Option _) = some r := h
   cases h2
  | succ m2 =>
   refine ⟨m2, rfl, AWp.drop _ _ _ hr' (by kernel_rfl) ?_⟩
   clear hr' st'
   replace h : F_av0_b2 n s at_ (F_av0_l2 n s at_ m2) v5 v6 = some r := h
   unfold F_av0_b2 at h
   refine AWp.seq ?_
   refine AWp.seq ?_
   refine AWp.rg tt_ok [] (by kernel_rfl) all_nil ?_
   refine AE.tn_ ?_
   refine AWp.cnd h (by kernel_rfl) ?_ ?_ <;> clear h <;> intro h
   ·refine AWp.skip ?_
    refine AE.tn_ ?_
    refine AWp.cut (fun st' => ∃ (v8 : Int), restr [0, 1, 5, 6] [] 0 st'.env st'.H st'.nxt = some ⟨[(0, ⟨.v (.str s), none⟩), (1, ⟨.v (.int .i64 at_), none⟩), (5, ⟨.v (.int .i64 v8), none⟩), (6, ⟨.v (.int .i64 v6), none⟩)], [], 0⟩ ∧ F_av0_j3 n (F_av0_l2 n s at_ m2) s at_ v6 v8 = some r) ?_ ?_
    ·refine AWp.block ?_
     refine AWp.seq ?_
     obtain ⟨g7, h⟩ := ass_some h
     refine AWp.rg tt_ok [] (by kernel_rfl) (all_cons g7 all_nil) ?_
     refine AE.tn_ ?_
     refine AWp.cnd h (by kernel_rfl) ?_ ?_ <;> clear h <;> intro h
     ·refine AWp.rg tt_ok [] (by kernel_rfl) all_nil ?_
      exact AE.bn_ (AE.tn_ ⟨(IntKind.i64.wrap (v5 + 1)), by kernel_rfl, h⟩)
     ·refine AWp.skip ?_
      exact AE.bn_ (AE.tn_ ⟨v5, by kernel_rfl, h⟩)
    ·clear h
     rintro st' ⟨v8, hr', h⟩
     refine AWp.drop _ _ _ hr' (by kernel_rfl) ?_
     clear hr' st'
     unfold F_av0_j3 at h
     refine AWp.rg tt_ok [] (by kernel_rfl) all_nil ?_
     exact AE.tn_ ⟨(v8, (IntKind.i64.wrap (v6 + 1))), by kernel_rfl, h⟩
   ·refine AWp.exit ?_
    exact AE.tx_ (AE.tx_ (AE.block_hit (AE.tn_ ⟨v5, by kernel_rfl, h⟩)))
 ·clear h
  rintro st' ⟨v11, hr', h⟩
  refine AWp.drop _ _ _ hr' (by kernel_rfl) ?_
  clear hr' st'
  unfold F_av0_j1 at h
  refine AWp.seq ?_
  refine AWp.rg tt_ok [] (by kernel_rfl) all_nil ?_
  refine AE.tn_ ?_
  refine AWp.ret ?_
  obtain rfl := Option.some.inj h
  exact post_ret (by kernel_rfl)
theorem c_an0 (n : Nat) (s : List UInt8) (at_ : Int) (r : Int) (h : F_an0 n s at_ = some r) : saysOf Tryz.prog 78 [.v (.str s), .v (.int .i64 at_)] [] [] (.ret (.v (.int .i64 r)) none) [] := by
 refine sw_ tt_ok Tryz.func78 rfl rfl rfl ?_
 unfold F_an0 at h
 refine AWp.seq ?_
 refine AWp.rg tt_ok [] (by kernel_rfl) all_nil ?_
 refine AE.tn_ ?_
 refine AWp.cut (fun st' => ∃ (v22 : Int), restr [1] [] 0 st'.env st'.H st'.nxt = some ⟨[(1, ⟨.v (.int .i64 v22), none⟩)], [], 0⟩ ∧ F_an0_j1 n v22 = some r) ?_ ?_
 ·refine AWp.block ?_
  refine AWp.loop (σ := Int) (fun zm zs zst => restr [0, 1] [] 0 zst.env zst.H zst.nxt = some ⟨[(0, ⟨.v (.str s), none⟩), (1, ⟨.v (.int .i64 zs), none⟩)], [], 0⟩ ∧ F_an0_l2 n s zm zs = some r) ?_ (n := n) (s := at_) ⟨by kernel_rfl, h⟩
  clear h
  rintro m2 v11 st' ⟨hr', h⟩
  cases m2 with
  | zero =>
   have h2 : (none : Option _) = some r := h
   cases h2
  | succ m2 =>
   refine ⟨m2, rfl, AWp.drop _ _ _ hr' (by kernel_rfl) ?_⟩
   clear hr' st'
   replace h : F_an0_b2 n s (F_an0_l2 n s m2) v11 = some r := h
   unfold F_an0_b2 at h
   refine AWp.seq ?_
   refine AWp.seq ?_
   refine AWp.rg tt_ok [] (by kernel_rfl) all_nil ?_
   refine AE.tn_ ?_
   refine AWp.cnd h (by kernel_rfl) ?_ ?_ <;> clear h <;> intro h
   ·refine AWp.skip ?_
    refine AE.tn_ ?_
    refine AWp.block ?_
    refine AWp.seq ?_
    obtain ⟨g12, h⟩ := ass_some h
    refine AWp.rg tt_ok [] (by kernel_rfl) (all_cons g12 all_nil) ?_
    refine AE.tn_ ?_
    refine AWp.cnd h (by kernel_rfl) ?_ ?_ <;> clear h <;> intro h
    ·refine AWp.block ?_
     refine AWp.loop (σ := Int) (fun zm zs zst => restr [0, 1] [] 0 zst.env zst.H zst.nxt = some ⟨[(0, ⟨.v (.str s), none⟩), (1, ⟨.v (.int .i64 zs), none⟩)], [], 0⟩ ∧ F_an0_l3 n (F_an0_l2 n s m2) s zm zs = some r) ?_ (n := n) (s := v11) ⟨by kernel_rfl, h⟩
     clear h
     rintro m3 v15 st' ⟨hr', h⟩
     cases m3 with
     | zero =>
      have h2 : (none : Option _) = some r := h
      cases h2
     | succ m3 =>
      refine ⟨m3, rfl, AWp.drop _ _ _ hr' (by kernel_rfl) ?_⟩
      clear hr' st'
      replace h : F_an0_b3 n (F_an0_l2 n s m2) s (F_an0_l3 n (F_an0_l2 n s m2) s m3) v15 = some r := h
      unfold F_an0_b3 at h
      refine AWp.seq ?_
      refine AWp.seq ?_
      obtain ⟨g16, h⟩ := ass_some h
      refine AWp.rg tt_ok [] (by kernel_rfl) (all_cons (orT g16) all_nil) ?_
      refine AE.tn_ ?_
      refine AWp.cnd h (by kernel_rfl) ?_ ?_ <;> clear h <;> intro h
      ·refine AWp.skip ?_
       refine AE.tn_ ?_
       refine AWp.block ?_
       refine AWp.rg tt_ok [] (by kernel_rfl) all_nil ?_
       exact AE.bn_ (AE.tn_ ⟨(IntKind.i64.wrap (v15 + 1)), by kernel_rfl, h⟩)
      ·refine AWp.exit ?_
       exact AE.tx_ (AE.tx_ (AE.block_hit (AE.bn_ (AE.tn_ ⟨v15, by kernel_rfl, h⟩))))
    ·refine AWp.seq ?_
     obtain ⟨g18, h⟩ := ass_some h
     obtain ⟨g19, h⟩ := ass_some h
     obtain ⟨g20, h⟩ := ass_some h
     refine AWp.rg tt_ok [] (by kernel_rfl) (all_cons (orF g20) (all_cons (orF g19) (all_cons g18 all_nil))) ?_
     refine AE.tn_ ?_
     refine AWp.cnd h (by kernel_rfl) ?_ ?_ <;> clear h <;> intro h
     ·refine AWp.rg tt_ok [] (by kernel_rfl) all_nil ?_
      exact AE.bn_ (AE.tn_ ⟨(IntKind.i64.wrap (v11 + 1)), by kernel_rfl, h⟩)
     ·refine AWp.seq ?_
      refine AWp.rg tt_ok [] (by kernel_rfl) all_nil ?_
      refine AE.tn_ ?_
      refine AWp.ret ?_
      obtain rfl := Option.some.inj h
      exact AE.br_ (AE.tr_ (AE.br_ (AE.tr_ (post_ret (by kernel_rfl)))))
   ·refine AWp.exit ?_
    exact AE.tx_ (AE.tx_ (AE.block_hit (AE.tn_ ⟨v11, by kernel_rfl, h⟩)))
 ·clear h
  rintro st' ⟨v22, hr', h⟩
  refine AWp.drop _ _ _ hr' (by kernel_rfl) ?_
  clear hr' st'
  unfold F_an0_j1 at h
  refine AWp.seq ?_
  refine AWp.rg tt_ok [] (by kernel_rfl) all_nil ?_
  refine AE.tn_ ?_
  refine AWp.ret ?_
  obtain rfl := Option.some.inj h
  exact post_ret (by kernel_rfl)
theorem c_dk0 (n : Nat) (r : (List (List UInt8))) (h : F_dk0 n = some r) : saysOf Tryz.prog 128 [] [] [] (.ret (.v (encL 1 e_str r)) (some 9)) [] := by
 refine sw_ tt_ok Tryz.func128 rfl rfl rfl ?_
 unfold F_dk0 at h
 refine AWp.seq ?_
 refine AWp.rg tt_ok [] (by kernel_rfl) all_nil ?_
 refine AE.tn_ ?_
 refine AWp.seq ?_
 refine AWp.rg tt_ok [.val (encL 1 e_str ([([61, 61] : List UInt8), ([33, 61] : List UInt8), ([60, 61] : List UInt8), ([62, 61] : List UInt8), ([43, 43] : List UInt8), ([40] : List UInt8), ([41] : List UInt8), ([123] : List UInt8), ([125] : List UInt8), ([44] : List UInt8), ([59] : List UInt8), ([58] : List UInt8), ([61] : List UInt8), ([60] : List UInt8), ([62] : List UInt8), ([43] : List UInt8), ([45] : List UInt8), ([42] : List UInt8), ([47] : List UInt8), ([37] : List UInt8)] : List (List UInt8)))] (by kernel_rfl) (all_cons (vimp_litm (k := 1) (e := e_str) ([([61, 61] : List UInt8), ([33, 61] : List UInt8), ([60, 61] : List UInt8), ([62, 61] : List UInt8), ([43, 43] : List UInt8), ([40] : List UInt8), ([41] : List UInt8), ([123] : List UInt8), ([125] : List UInt8), ([44] : List UInt8), ([59] : List UInt8), ([58] : List UInt8), ([61] : List UInt8), ([60] : List UInt8), ([62] : List UInt8), ([43] : List UInt8), ([45] : List UInt8), ([42] : List UInt8), ([47] : List UInt8), ([37] : List UInt8)] : List (List UInt8))) all_nil) ?_
 refine AE.tn_ ?_
 refine AWp.ret ?_
 obtain rfl := Option.some.inj h
 exact post_ret (by kernel_rfl)
theorem c_ba0 (n : Nat) (s : List UInt8) (r : Bool) (h : F_ba0 n s = some r) : saysOf Tryz.prog 180 [.v (.str s)] [] [] (.ret (.v (.bool r)) none) [] := by
 refine sw_ tt_ok Tryz.func180 rfl rfl rfl ?_
 unfold F_ba0 at h
 refine AWp.seq ?_
 refine AWp.rg tt_ok [] (by kernel_rfl) all_nil ?_
 refine AE.tn_ ?_
 refine AWp.cut (fun st' => restr [0] [] 0 st'.env st'.H st'.nxt = some ⟨[(0, ⟨.v (.str s), none⟩)], [], 0⟩ ∧ F_ba0_j1 n s = some r) ?_ ?_
 ·refine AWp.seq ?_
  refine AWp.rg tt_ok [] (by kernel_rfl) all_nil ?_
  refine AE.tn_ ?_
  refine AWp.block ?_
  refine AWp.loop (σ := Int) (fun zm zs zst => restr [0, 3] [] 0 zst.env zst.H zst.nxt = some ⟨[(0, ⟨.v (.str s), none⟩), (3, ⟨.v (.int .i64 zs), none⟩)], [], 0⟩ ∧ F_ba0_l2 n s zm zs = some r) ?_ (n := n) (s := 0) ⟨by kernel_rfl, h⟩
  clear h
  rintro m2 v4 st' ⟨hr', h⟩
  cases m2 with
  | zero =>
   have h2 : (none : Option _) = some r := h
   cases h2
  | succ m2 =>
   refine ⟨m2, rfl, AWp.drop _ _ _ hr' (by kernel_rfl) ?_⟩
   clear hr' st'
   replace h : F_ba0_b2 n s (F_ba0_l2 n s m2) v4 = some r := h
   unfold F_ba0_b2 at h
   refine AWp.seq ?_
   refine AWp.seq ?_
   refine AWp.rg tt_ok [] (by kernel_rfl) all_nil ?_
   refine AE.tn_ ?_
   refine AWp.cnd h (by kernel_rfl) ?_ ?_ <;> clear h <;> intro h
   ·refine AWp.skip ?_
    refine AE.tn_ ?_
    refine AWp.seq ?_
    refine AWp.block ?_
    refine AWp.seq ?_
    obtain ⟨g5, h⟩ := ass_some h
    obtain ⟨g6, h⟩ := ass_some h
    refine AWp.rg tt_ok [] (by kernel_rfl) (all_cons (orF g6) (all_cons g5 all_nil)) ?_
    refine AE.tn_ ?_
    refine AWp.cnd h (by kernel_rfl) ?_ ?_ <;> clear h <;> intro h
    ·refine AWp.seq ?_
     refine AWp.rg tt_ok [] (by kernel_rfl) all_nil ?_
     refine AE.tn_ ?_
     refine AWp.ret ?_
     obtain rfl := Option.some.inj h
     exact AE.br_ (AE.tr_ (AE.tr_ (AE.br_ (AE.tr_ (post_ret (by kernel_rfl))))))
    ·refine AWp.skip ?_
     refine AE.bn_ (AE.tn_ ?_)
     refine AWp.rg tt_ok [] (by kernel_rfl) all_nil ?_
     exact AE.tn_ ⟨(IntKind.i64.wrap (v4 + 1)), by kernel_rfl, h⟩
   ·refine AWp.exit ?_
    exact AE.tx_ (AE.tx_ (AE.block_hit (AE.tn_ ⟨by kernel_rfl, h⟩)))
 ·clear h
  rintro st' ⟨hr', h⟩
  refine AWp.drop _ _ _ hr' (by kernel_rfl) ?_
  clear hr' st'
  unfold F_ba0_j1 at h
  refine AWp.seq ?_
  obtain ⟨g8, h⟩ := ass_some h
  refine AWp.rg tt_ok [] (by kernel_rfl) (all_cons (orT g8) all_nil) ?_
  refine AE.tn_ ?_
  refine AWp.ret ?_
  obtain rfl := Option.some.inj h
  exact post_ret (by kernel_rfl)
theorem c_aw0 (n : Nat) (s : List UInt8) (r : Int × Int) (h : F_aw0 n s = some r) : saysOf Tryz.prog 161 [.v (.str s)] [] [] (.ret (.tup [.v (.int .i64 r.1), .v (.int .i64 r.2)]) none) [] := by
 refine sw_ tt_ok Tryz.func161 rfl rfl rfl ?_
 unfold F_aw0 at h
 refine AWp.seq ?_
 refine AWp.rg tt_ok [] (by kernel_rfl) all_nil ?_
 refine AE.tn_ ?_
 refine AWp.seq ?_
 obtain ⟨g1, h⟩ := ass_some h
 refine AWp.rg tt_ok [] (by kernel_rfl) (all_cons (orT g1) all_nil) ?_
 refine AE.tn_ ?_
 refine AWp.seq ?_
 refine AWp.rg tt_ok [] (by kernel_rfl) all_nil ?_
 refine AE.tn_ ?_
 refine AWp.seq ?_
 refine AWp.rg tt_ok [] (by kernel_rfl) all_nil ?_
 refine AE.tn_ ?_
 refine AWp.cut (fun st' => ∃ (v3 : List UInt8) (v4 : Int), restr [4, 5, 6] [] 0 st'.env st'.H st'.nxt = some ⟨[(4, ⟨.v (.bool (bif (decide (0 < ((s.length : Nat) : Int))) then (decide ((((s.getD 0 0).toNat : Nat) : Int) = 45)) else false)), none⟩), (5, ⟨.v (.str v3), none⟩), (6, ⟨.v (.int .u64 v4), none⟩)], [], 0⟩ ∧ F_aw0_j1 n s v3 v4 = some r) ?_ ?_
 ·refine AWp.seq ?_
  refine AWp.rg tt_ok [] (by kernel_rfl) all_nil ?_
  refine AE.tn_ ?_
  refine AWp.cnd h (by kernel_rfl) ?_ ?_ <;> clear h <;> intro h
  ·refine AWp.seq ?_
   obtain ⟨g2, h⟩ := ass_some h
   refine AWp.rg tt_ok [] (by kernel_rfl) (all_cons g2 all_nil) ?_
   refine AE.tn_ ?_
   refine AWp.rg tt_ok [] (by kernel_rfl) all_nil ?_
   exact AE.tn_ ⟨(s.drop 1), 9223372036854775808, by kernel_rfl, h⟩
  ·refine AWp.skip ?_
   exact AE.tn_ ⟨s, 9223372036854775807, by kernel_rfl, h⟩
 ·clear h
  rintro st' ⟨v3, v4, hr', h⟩
  refine AWp.drop _ _ _ hr' (by kernel_rfl) ?_
  clear hr' st'
  unfold F_aw0_j1 at h
  refine AWp.seq ?_
  refine AWp.seq ?_
  obtain ⟨r5, hr5, h⟩ := bind_some h
  have pr5 := c_ba0 n v3 _ hr5
  refine AWp.rg tt_ok [orn pr5 []] (by kernel_rfl) (all_cons pr5 all_nil) ?_
  refine AE.tn_ ?_
  refine AWp.cnd h (by kernel_rfl) ?_ ?_ <;> clear h <;> intro h
  ·refine AWp.seq ?_
   refine AWp.rg tt_ok [] (by kernel_rfl) all_nil ?_
   refine AE.tn_ ?_
   refine AWp.ret ?_
   obtain rfl := Option.some.inj h
   exact AE.tr_ (post_ret (by kernel_rfl))
  ·refine AWp.skip ?_
   refine AE.tn_ ?_
   refine AWp.seq ?_
   refine AWp.rg tt_ok [] (by kernel_rfl) all_nil ?_
   refine AE.tn_ ?_
   refine AWp.cut (fun st' => ∃ (v15 : Int), restr [4, 7] [] 0 st'.env st'.H st'.nxt = some ⟨[(4, ⟨.v (.bool (bif (decide (0 < ((s.length : Nat) : Int))) then (decide ((((s.getD 0 0).toNat : Nat) : Int) = 45)) else false)), none⟩), (7, ⟨.v (.int .u64 v15), none⟩)], [], 0⟩ ∧ F_aw0_j2 n s v15 = some r) ?_ ?_
   ·refine AWp.seq ?_
    refine AWp.rg tt_ok [] (by kernel_rfl) all_nil ?_
    refine AE.tn_ ?_
    refine AWp.block ?_
    refine AWp.loop (σ := Int × Int) (fun zm zs zst => restr [4, 5, 6, 7, 8] [] 0 zst.env zst.H zst.nxt = some ⟨[(4, ⟨.v (.bool (bif (decide (0 < ((s.length : Nat) : Int))) then (decide ((((s.getD 0 0).toNat : Nat) : Int) = 45)) else false)), none⟩), (5, ⟨.v (.str v3), none⟩), (6, ⟨.v (.int .u64 v4), none⟩), (7, ⟨.v (.int .u64 zs.1), none⟩), (8, ⟨.v (.int .i64 zs.2), none⟩)], [], 0⟩ ∧ F_aw0_l3 n s v3 v4 zm zs.1 zs.2 = some r) ?_ (n := n) (s := (0, 0)) ⟨by kernel_rfl, h⟩
    clear h
    rintro m3 ⟨v10, v11⟩ st' ⟨hr', h⟩
    cases m3 with
    | zero =>
     have h2 : (none : Option _) = some r := h
     cases h2
    | succ m3 =>
     refine ⟨m3, rfl, AWp.drop _ _ _ hr' (by kernel_rfl) ?_⟩
     clear hr' st'
     replace h : F_aw0_b3 n s v3 v4 (F_aw0_l3 n s v3 v4 m3) v10 v11 = some r := h
     unfold F_aw0_b3 at h
     refine AWp.seq ?_
     refine AWp.seq ?_
     refine AWp.rg tt_ok [] (by kernel_rfl) all_nil ?_
     refine AE.tn_ ?_
     refine AWp.cnd h (by kernel_rfl) ?_ ?_ <;> clear h <;> intro h
     ·refine AWp.skip ?_
      refine AE.tn_ ?_
      refine AWp.seq ?_
      refine AWp.block ?_
      refine AWp.seq ?_
      obtain ⟨g12, h⟩ := ass_some h
      refine AWp.rg tt_ok [] (by kernel_rfl) (all_cons g12 all_nil) ?_
      refine AE.tn_ ?_
      refine AWp.seq ?_
      refine AWp.seq ?_
      refine AWp.rg tt_ok [] (by kernel_rfl) (all_cons (rfl : nzB 10 = true) all_nil) ?_
      refine AE.tn_ ?_
      refine AWp.cnd h (by kernel_rfl) ?_ ?_ <;> clear h <;> intro h
      ·refine AWp.seq ?_
       refine AWp.rg tt_ok [] (by kernel_rfl) all_nil ?_
       refine AE.tn_ ?_
       refine AWp.ret ?_
       obtain rfl := Option.some.inj h
       exact AE.tr_ (AE.br_ (AE.tr_ (AE.tr_ (AE.br_ (AE.tr_ (post_ret (by kernel_rfl)))))))
      ·refine AWp.skip ?_
       refine AE.tn_ ?_
       refine AWp.rg tt_ok [] (by kernel_rfl) all_nil ?_
       refine AE.bn_ (AE.tn_ ?_)
       refine AWp.rg tt_ok [] (by kernel_rfl) all_nil ?_
       exact AE.tn_ ⟨((IntKind.u64.wrap ((IntKind.u64.wrap (v10 * 10)) + (IntKind.u64.wrap (IntKind.u8.wrap ((((v3.getD (v11).toNat 0).toNat : Nat) : Int) - 48))))), (IntKind.i64.wrap (v11 + 1))), by kernel_rfl, h⟩
     ·refine AWp.exit ?_
      exact AE.tx_ (AE.tx_ (AE.block_hit (AE.tn_ ⟨v10, by kernel_rfl, h⟩)))
   ·clear h
    rintro st' ⟨v15, hr', h⟩
    refine AWp.drop _ _ _ hr' (by kernel_rfl) ?_
    clear hr' st'
    unfold F_aw0_j2 at h
    refine AWp.seq ?_
    refine AWp.seq ?_
    refine AWp.rg tt_ok [] (by kernel_rfl) all_nil ?_
    refine AE.tn_ ?_
    refine AWp.cnd h (by kernel_rfl) ?_ ?_ <;> clear h <;> intro h
    ·refine AWp.seq ?_
     refine AWp.rg tt_ok [] (by kernel_rfl) all_nil ?_
     refine AE.tn_ ?_
     refine AWp.ret ?_
     obtain rfl := Option.some.inj h
     exact AE.tr_ (post_ret (by kernel_rfl))
    ·refine AWp.skip ?_
     refine AE.tn_ ?_
     refine AWp.seq ?_
     refine AWp.rg tt_ok [] (by kernel_rfl) all_nil ?_
     refine AE.tn_ ?_
     refine AWp.ret ?_
     obtain rfl := Option.some.inj h
     exact post_ret (by kernel_rfl)
theorem c_db0 (n : Nat) (r : (List (List UInt8))) (h : F_db0 n = some r) : saysOf Tryz.prog 170 [] [] [] (.ret (.v (encL 1 e_str r)) (some 9)) [] := by
 refine sw_ tt_ok Tryz.func170 rfl rfl rfl ?_
 unfold F_db0 at h
 refine AWp.seq ?_
 refine AWp.rg tt_ok [] (by kernel_rfl) all_nil ?_
 refine AE.tn_ ?_
 refine AWp.seq ?_
 refine AWp.rg tt_ok [.val (encL 1 e_str ([([112, 114, 111, 99] : List UInt8), ([108, 101, 116] : List UInt8), ([112, 117, 116] : List UInt8), ([100, 101, 108, 101, 116, 101] : List UInt8), ([105, 102] : List UInt8), ([101, 108, 115, 101] : List UInt8), ([102, 111, 114] : List UInt8), ([116, 111] : List UInt8), ([109, 97, 120] : List UInt8), ([101, 109, 105, 116] : List UInt8), ([97, 98, 111, 114, 116] : List UInt8), ([110, 111, 116] : List UInt8), ([97, 110, 100] : List UInt8), ([111, 114] : List UInt8), ([105, 110, 116] : List UInt8), ([115, 116, 114] : List UInt8), ([98, 111, 111, 108] : List UInt8), ([116, 101, 120, 116] : List UInt8), ([108, 101, 110] : List UInt8), ([103, 101, 116, 105, 110, 116] : List UInt8), ([103, 101, 116, 115, 116, 114] : List UInt8), ([104, 97, 115] : List UInt8), ([110, 111, 119] : List UInt8), ([114, 97, 110, 100, 111, 109] : List UInt8), ([110, 111, 100, 101] : List UInt8)] : List (List UInt8)))] (by kernel_rfl) (all_cons (vimp_litm (k := 1) (e := e_str) ([([112, 114, 111, 99] : List UInt8), ([108, 101, 116] : List UInt8), ([112, 117, 116] : List UInt8), ([100, 101, 108, 101, 116, 101] : List UInt8), ([105, 102] : List UInt8), ([101, 108, 115, 101] : List UInt8), ([102, 111, 114] : List UInt8), ([116, 111] : List UInt8), ([109, 97, 120] : List UInt8), ([101, 109, 105, 116] : List UInt8), ([97, 98, 111, 114, 116] : List UInt8), ([110, 111, 116] : List UInt8), ([97, 110, 100] : List UInt8), ([111, 114] : List UInt8), ([105, 110, 116] : List UInt8), ([115, 116, 114] : List UInt8), ([98, 111, 111, 108] : List UInt8), ([116, 101, 120, 116] : List UInt8), ([108, 101, 110] : List UInt8), ([103, 101, 116, 105, 110, 116] : List UInt8), ([103, 101, 116, 115, 116, 114] : List UInt8), ([104, 97, 115] : List UInt8), ([110, 111, 119] : List UInt8), ([114, 97, 110, 100, 111, 109] : List UInt8), ([110, 111, 100, 101] : List UInt8)] : List (List UInt8))) all_nil) ?_
 refine AE.tn_ ?_
 refine AWp.ret ?_
 obtain rfl := Option.some.inj h
 exact post_ret (by kernel_rfl)
theorem c_br0 (n : Nat) (l : List (List UInt8)) (s : List UInt8) (r : Bool) (h : F_br0 n l s = some r) : saysOf Tryz.prog 169 [.v (encL 1 e_str l), .v (.str s)] [] [] (.ret (.v (.bool r)) none) [] := by
 refine sw_ tt_ok Tryz.func169 rfl rfl rfl ?_
 unfold F_br0 at h
 refine AWp.seq ?_
 refine AWp.rg tt_ok [] (by kernel_rfl) all_nil ?_
 refine AE.tn_ ?_
 refine AWp.cut (fun st' => restr [] [] 0 st'.env st'.H st'.nxt = some ⟨[], [], 0⟩ ∧ F_br0_j1 n = some r) ?_ ?_
 ·refine AWp.seq ?_
  refine AWp.rg tt_ok [] (by kernel_rfl) all_nil ?_
  refine AE.tn_ ?_
  refine AWp.block ?_
  refine AWp.loop (σ := Int) (fun zm zs zst => restr [0, 1, 5] [] 0 zst.env zst.H zst.nxt = some ⟨[(0, ⟨.v (encL 1 e_str l), none⟩), (1, ⟨.v (.str s), none⟩), (5, ⟨.v (.int .i64 zs), none⟩)], [], 0⟩ ∧ F_br0_l2 n l s zm zs = some r) ?_ (n := n) (s := 0) ⟨by kernel_rfl, h⟩
  clear h
  rintro m2 v3 st' ⟨hr', h⟩
  cases m2 with
  | zero =>
   have h2 : (none : Option _) = some r := h
   cases h2
  | succ m2 =>
   refine ⟨m2, rfl, AWp.drop _ _ _ hr' (by kernel_rfl) ?_⟩
   clear hr' st'
   replace h : F_br0_b2 n l s (F_br0_l2 n l s m2) v3 = some r := h
   unfold F_br0_b2 at h
   refine AWp.seq ?_
   refine AWp.seq ?_
   refine AWp.rg tt_ok [] (by kernel_rfl) all_nil ?_
   refine AE.tn_ ?_
   refine AWp.cnd h (by kernel_rfl) ?_ ?_ <;> clear h <;> intro h
   ·refine AWp.skip ?_
    refine AE.tn_ ?_
    refine AWp.seq ?_
    refine AWp.block ?_
    refine AWp.seq ?_
    obtain ⟨g4, h⟩ := ass_some h
    refine AWp.rg tt_ok [.raw] (by kernel_rfl) (all_cons g4 all_nil) ?_
    refine AE.tn_ ?_
    refine AWp.cnd h (by kernel_rfl) ?_ ?_ <;> clear h <;> intro h
    ·refine AWp.seq ?_
     refine AWp.rg tt_ok [] (by kernel_rfl) all_nil ?_
     refine AE.tn_ ?_
     refine AWp.ret ?_
     obtain rfl := Option.some.inj h
     exact AE.br_ (AE.tr_ (AE.tr_ (AE.br_ (AE.tr_ (post_ret (by kernel_rfl))))))
    ·refine AWp.skip ?_
     refine AE.bn_ (AE.tn_ ?_)
     refine AWp.rg tt_ok [] (by kernel_rfl) all_nil ?_
     exact AE.tn_ ⟨(IntKind.i64.wrap (v3 + 1)), by kernel_rfl, h⟩
   ·refine AWp.exit ?_
    exact AE.tx_ (AE.tx_ (AE.block_hit (AE.tn_ ⟨by kernel_rfl, h⟩)))
 ·clear h
  rintro st' ⟨hr', h⟩
  refine AWp.drop _ _ _ hr' (by kernel_rfl) ?_
  clear hr' st'
  unfold F_br0_j1 at h
  refine AWp.seq ?_
  refine AWp.rg tt_ok [] (by kernel_rfl) all_nil ?_
  refine AE.tn_ ?_
  refine AWp.ret ?_
  obtain rfl := Option.some.inj h
  exact post_ret (by kernel_rfl)
theorem c_ck0 (n : Nat) (s : List UInt8) (r : Bool) (h : F_ck0 n s = some r) : saysOf Tryz.prog 137 [.v (.str s)] [] [] (.ret (.v (.bool r)) none) [] := by
 refine sw_ tt_ok Tryz.func137 rfl rfl rfl ?_
 unfold F_ck0 at h
 refine AWp.seq ?_
 refine AWp.rg tt_ok [] (by kernel_rfl) all_nil ?_
 refine AE.tn_ ?_
 refine AWp.seq ?_
 obtain ⟨r1, hr1, h⟩ := bind_some h
 have pr1 := c_db0 n _ hr1
 obtain ⟨r2, hr2, h⟩ := bind_some h
 have pr2 := c_br0 n r1 s _ hr2
 refine AWp.rg tt_ok [orn pr1 [], orn pr2 []] (by kernel_rfl) (all_cons pr2 (all_cons pr1 all_nil)) ?_
 refine AE.tn_ ?_
 refine AWp.ret ?_
 obtain rfl := Option.some.inj h
 exact post_ret (by kernel_rfl)
theorem c_cn0 (n : Nat) (c : Int) (r : Bool) (h : F_cn0 n c = some r) : saysOf Tryz.prog 136 [.v (.int .u8 c)] [] [] (.ret (.v (.bool r)) none) [] := by
 refine sw_ tt_ok Tryz.func136 rfl rfl rfl ?_
 unfold F_cn0 at h
 refine AWp.seq ?_
 refine AWp.rg tt_ok [] (by kernel_rfl) all_nil ?_
 refine AE.tn_ ?_
 refine AWp.seq ?_
 refine AWp.rg tt_ok [] (by kernel_rfl) all_nil ?_
 refine AE.tn_ ?_
 refine AWp.ret ?_
 obtain rfl := Option.some.inj h
 exact post_ret (by kernel_rfl)
theorem c_dm0 (n : Nat) (c : Int) (r : Bool) (h : F_dm0 n c = some r) : saysOf Tryz.prog 160 [.v (.int .u8 c)] [] [] (.ret (.v (.bool r)) none) [] := by
 refine sw_ tt_ok Tryz.func160 rfl rfl rfl ?_
 unfold F_dm0 at h
 refine AWp.seq ?_
 refine AWp.rg tt_ok [] (by kernel_rfl) all_nil ?_
 refine AE.tn_ ?_
 refine AWp.seq ?_
 refine AWp.rg tt_ok [] (by kernel_rfl) all_nil ?_
 refine AE.tn_ ?_
 refine AWp.ret ?_
 obtain rfl := Option.some.inj h
 exact post_ret (by kernel_rfl)
theorem c_cy0 (n : Nat) (c : Int) (r : Bool) (h : F_cy0 n c = some r) : saysOf Tryz.prog 125 [.v (.int .u8 c)] [] [] (.ret (.v (.bool r)) none) [] := by
 refine sw_ tt_ok Tryz.func125 rfl rfl rfl ?_
 unfold F_cy0 at h
 refine AWp.seq ?_
 refine AWp.rg tt_ok [] (by kernel_rfl) all_nil ?_
 refine AE.tn_ ?_
 refine AWp.seq ?_
 obtain ⟨r1, hr1, h⟩ := bind_some h
 have pr1 := c_cn0 n c _ hr1
 obtain ⟨r2, hr2, h⟩ := bind_some h
 have pr2 := fun c1 => c_dm0 n c _ (cond_t (not_t c1) hr2)
 refine AWp.rg tt_ok [orn pr1 [], orn1 pr2] (by kernel_rfl) (all_cons pr2 (all_cons pr1 all_nil)) ?_
 refine AE.tn_ ?_
 refine AWp.ret ?_
 obtain rfl := Option.some.inj h
 exact post_ret (by kernel_rfl)
theorem c_bh0 (n : Nat) (s : List UInt8) (at_ : Int) (r : Int) (h : F_bh0 n s at_ = some r) : saysOf Tryz.prog 126 [.v (.str s), .v (.int .i64 at_)] [] [] (.ret (.v (.int .i64 r)) none) [] := by
 refine sw_ tt_ok Tryz.func126 rfl rfl rfl ?_
 unfold F_bh0 at h
 refine AWp.seq ?_
 refine AWp.rg tt_ok [] (by kernel_rfl) all_nil ?_
 refine AE.tn_ ?_
 refine AWp.cut (fun st' => ∃ (v8 : Int), restr [1] [] 0 st'.env st'.H st'.nxt = some ⟨[(1, ⟨.v (.int .i64 v8), none⟩)], [], 0⟩ ∧ F_bh0_j1 n v8 = some r) ?_ ?_
 ·refine AWp.block ?_
  refine AWp.loop (σ := Int) (fun zm zs zst => restr [0, 1] [] 0 zst.env zst.H zst.nxt = some ⟨[(0, ⟨.v (.str s), none⟩), (1, ⟨.v (.int .i64 zs), none⟩)], [], 0⟩ ∧ F_bh0_l2 n s zm zs = some r) ?_ (n := n) (s := at_) ⟨by kernel_rfl, h⟩
  clear h
  rintro m2 v4 st' ⟨hr', h⟩
  cases m2 with
  | zero =>
   have h2 : (none : Option _) = some r := h
   cases h2
  | succ m2 =>
   refine ⟨m2, rfl, AWp.drop _ _ _ hr' (by kernel_rfl) ?_⟩
   clear hr' st'
   replace h : F_bh0_b2 n s (F_bh0_l2 n s m2) v4 = some r := h
   unfold F_bh0_b2 at h
   refine AWp.seq ?_
   refine AWp.seq ?_
   obtain ⟨g5, h⟩ := ass_some h
   obtain ⟨r6, hr6, h⟩ := bind_some h
   have pr6 := fun c1 => c_cy0 n (((s.getD (v4).toNat 0).toNat : Nat) : Int) _ (cond_t c1 hr6)
   refine AWp.rg tt_ok [orn1 pr6] (by kernel_rfl) (all_cons pr6 (all_cons (orT g5) all_nil)) ?_
   refine AE.tn_ ?_
   refine AWp.cnd h (by kernel_rfl) ?_ ?_ <;> clear h <;> intro h
   ·refine AWp.skip ?_
    refine AE.tn_ ?_
    refine AWp.block ?_
    refine AWp.rg tt_ok [] (by kernel_rfl) all_nil ?_
    exact AE.bn_ (AE.tn_ ⟨(IntKind.i64.wrap (v4 + 1)), by kernel_rfl, h⟩)
   ·refine AWp.exit ?_
    exact AE.tx_ (AE.tx_ (AE.block_hit (AE.tn_ ⟨v4, by kernel_rfl, h⟩)))
 ·clear h
  rintro st' ⟨v8, hr', h⟩
  refine AWp.drop _ _ _ hr' (by kernel_rfl) ?_
  clear hr' st'
  unfold F_bh0_j1 at h
  refine AWp.seq ?_
  refine AWp.rg tt_ok [] (by kernel_rfl) all_nil ?_
  refine AE.tn_ ?_
  refine AWp.ret ?_
  obtain rfl := Option.some.inj h
  exact post_ret (by kernel_rfl)
theorem c_bw0 (n : Nat) (s : List UInt8) (r : Bool) (h : F_bw0 n s = some r) : saysOf Tryz.prog 94 [.v (.str s)] [] [] (.ret (.v (.bool r)) none) [] := by
 refine sw_ tt_ok Tryz.func94 rfl rfl rfl ?_
 unfold F_bw0 at h
 refine AWp.seq ?_
 refine AWp.rg tt_ok [] (by kernel_rfl) all_nil ?_
 refine AE.tn_ ?_
 refine AWp.seq ?_
 obtain ⟨g1, h⟩ := ass_some h
 obtain ⟨r2, hr2, h⟩ := bind_some h
 have pr2 := fun c1 => c_cn0 n (((s.getD 0 0).toNat : Nat) : Int) _ (cond_t c1 hr2)
 obtain ⟨r3, hr3, h⟩ := bind_some h
 have pr3 := fun c1 => c_bh0 n s 0 _ (cond_t c1 hr3)
 obtain ⟨r4, hr4, h⟩ := bind_some h
 have pr4 := fun c1 => c_ck0 n s _ (cond_t c1 hr4)
 refine AWp.rg tt_ok [orn1 pr2, orn1 pr3, orn1 pr4] (by kernel_rfl) (all_cons pr4 (all_cons pr3 (all_cons pr2 (all_cons (orT g1) all_nil)))) ?_
 refine AE.tn_ ?_
 refine AWp.ret ?_
 obtain rfl := Option.some.inj h
 exact post_ret (by kernel_rfl)
theorem c_dg0 (n : Nat) (w : List UInt8) (r : Token × Int) (h : F_dg0 n w = some r) : saysOf Tryz.prog 127 [.v (.str w)] [] [] (.ret (.tup [.v (.agg [.int .i64 r.1.Kind, .str r.1.Text, .int .i64 r.1.N, .int .i64 r.1.Line]), .v (.int .i64 r.2)]) none) [] := by
 refine sw_ tt_ok Tryz.func127 rfl rfl rfl ?_
 unfold F_dg0 at h
 refine AWp.seq ?_
 refine AWp.rg tt_ok [] (by kernel_rfl) all_nil ?_
 refine AE.tn_ ?_
 refine AWp.seq ?_
 refine AWp.seq ?_
 obtain ⟨g1, h⟩ := ass_some h
 obtain ⟨r2, hr2, h⟩ := bind_some h
 have pr2 := c_cn0 n (((w.getD 0 0).toNat : Nat) : Int) _ hr2
 refine AWp.rg tt_ok [orn pr2 []] (by kernel_rfl) (all_cons pr2 (all_cons g1 all_nil)) ?_
 refine AE.tn_ ?_
 refine AWp.cnd h (by kernel_rfl) ?_ ?_ <;> clear h <;> intro h
 ·refine AWp.seq ?_
  refine AWp.seq ?_
  obtain ⟨r4, hr4, h⟩ := bind_some h
  have pr4 := c_ck0 n w _ hr4
  refine AWp.rg tt_ok [orn pr4 []] (by kernel_rfl) (all_cons pr4 all_nil) ?_
  refine AE.tn_ ?_
  refine AWp.cnd h (by kernel_rfl) ?_ ?_ <;> clear h <;> intro h
  ·refine AWp.seq ?_
   refine AWp.rg tt_ok [] (by kernel_rfl) all_nil ?_
   refine AE.tn_ ?_
   refine AWp.ret ?_
   obtain rfl := Option.some.inj h
   exact AE.tr_ (AE.tr_ (post_ret (by kernel_rfl)))
  ·refine AWp.skip ?_
   refine AE.tn_ ?_
   refine AWp.seq ?_
   refine AWp.seq ?_
   obtain ⟨r6, hr6, h⟩ := bind_some h
   have pr6 := c_bw0 n w _ hr6
   refine AWp.rg tt_ok [orn pr6 []] (by kernel_rfl) (all_cons pr6 all_nil) ?_
   refine AE.tn_ ?_
   refine AWp.cnd h (by kernel_rfl) ?_ ?_ <;> clear h <;> intro h
   ·refine AWp.seq ?_
    refine AWp.rg tt_ok [] (by kernel_rfl) all_nil ?_
    refine AE.tn_ ?_
    refine AWp.ret ?_
    obtain rfl := Option.some.inj h
    exact AE.tr_ (AE.tr_ (post_ret (by kernel_rfl)))
   ·refine AWp.skip ?_
    refine AE.tn_ ?_
    refine AWp.seq ?_
    refine AWp.rg tt_ok [] (by kernel_rfl) all_nil ?_
    refine AE.tn_ ?_
    refine AWp.ret ?_
    obtain rfl := Option.some.inj h
    exact AE.tr_ (post_ret (by kernel_rfl))
 ·refine AWp.skip ?_
  refine AE.tn_ ?_
  refine AWp.seq ?_
  obtain ⟨r8, hr8, h⟩ := bind_some h
  have pr8 := c_aw0 n w _ hr8
  refine AWp.rg tt_ok [orn pr8 []] (by kernel_rfl) (all_cons pr8 all_nil) ?_
  refine AE.tn_ ?_
  refine AWp.seq ?_
  refine AWp.seq ?_
  refine AWp.rg tt_ok [] (by kernel_rfl) all_nil ?_
  refine AE.tn_ ?_
  refine AWp.cnd h (by kernel_rfl) ?_ ?_ <;> clear h <;> intro h
  ·refine AWp.seq ?_
   refine AWp.rg tt_ok [] (by kernel_rfl) all_nil ?_
   refine AE.tn_ ?_
   refine AWp.ret ?_
   obtain rfl := Option.some.inj h
   exact AE.tr_ (post_ret (by kernel_rfl))
  ·refine AWp.skip ?_
   refine AE.tn_ ?_
   refine AWp.seq ?_
   refine AWp.rg tt_ok [] (by kernel_rfl) all_nil ?_
   refine AE.tn_ ?_
   refine AWp.ret ?_
   obtain rfl := Option.some.inj h
   exact post_ret (by kernel_rfl)
theorem c_ap0 (n : Nat) (s : List UInt8) (at_ : Int) (r : (List UInt8) × Int × Int) (h : F_ap0 n s at_ = some r) : saysOf Tryz.prog 124 [.v (.str s), .v (.int .i64 at_)] [] [] (.ret (.tup [.v (.str r.1), .v (.int .i64 r.2.1), .v (.int .i64 r.2.2)]) none) [] := by
 refine sw_ tt_ok Tryz.func124 rfl rfl rfl ?_
 unfold F_ap0 at h
 refine AWp.seq ?_
 refine AWp.rg tt_ok [] (by kernel_rfl) all_nil ?_
 refine AE.tn_ ?_
 refine AWp.seq ?_
 refine AWp.rg tt_ok [] (by kernel_rfl) all_nil ?_
 refine AE.tn_ ?_
 refine AWp.seq ?_
 refine AWp.rg tt_ok [] (by kernel_rfl) all_nil ?_
 refine AE.tn_ ?_
 refine AWp.cut (fun st' => ∃ (v19 : Int), restr [1] [] 0 st'.env st'.H st'.nxt = some ⟨[(1, ⟨.v (.int .i64 v19), none⟩)], [], 0⟩ ∧ F_ap0_j1 n v19 = some r) ?_ ?_
 ·refine AWp.block ?_
  refine AWp.loop (σ := Int × (List UInt8)) (fun zm zs zst => restr [0, 1, 7] [] 0 zst.env zst.H zst.nxt = some ⟨[(0, ⟨.v (.str s), none⟩), (1, ⟨.v (.int .i64 zs.1), none⟩), (7, ⟨.v (.str zs.2), none⟩)], [], 0⟩ ∧ F_ap0_l2 n s zm zs.1 zs.2 = some r) ?_ (n := n) (s := ((IntKind.i64.wrap (at_ + 1)), ([] : List UInt8))) ⟨by kernel_rfl, h⟩
  clear h
  rintro m2 ⟨v9, v10⟩ st' ⟨hr', h⟩
  cases m2 with
  | zero =>
   have h2 : (none : Option _) = some r := h
   cases h2
  | succ m2 =>
   refine ⟨m2, rfl, AWp.drop _ _ _ hr' (by kernel_rfl) ?_⟩
   clear hr' st'
   replace h : F_ap0_b2 n s (F_ap0_l2 n s m2) v9 v10 = some r := h
   unfold F_ap0_b2 at h
   refine AWp.seq ?_
   refine AWp.seq ?_
   refine AWp.rg tt_ok [] (by kernel_rfl) all_nil ?_
   refine AE.tn_ ?_
   refine AWp.cnd h (by kernel_rfl) ?_ ?_ <;> clear h <;> intro h
   ·refine AWp.skip ?_
    refine AE.tn_ ?_
    refine AWp.block ?_
    refine AWp.seq ?_
    obtain ⟨g11, h⟩ := ass_some h
    refine AWp.rg tt_ok [] (by kernel_rfl) (all_cons g11 all_nil) ?_
    refine AE.tn_ ?_
    refine AWp.seq ?_
    refine AWp.seq ?_
    refine AWp.rg tt_ok [] (by kernel_rfl) all_nil ?_
    refine AE.tn_ ?_
    refine AWp.cnd h (by kernel_rfl) ?_ ?_ <;> clear h <;> intro h
    ·refine AWp.seq ?_
     refine AWp.rg tt_ok [] (by kernel_rfl) all_nil ?_
     refine AE.tn_ ?_
     refine AWp.ret ?_
     obtain rfl := Option.some.inj h
     exact AE.tr_ (AE.br_ (AE.tr_ (AE.br_ (AE.tr_ (post_ret (by kernel_rfl))))))
    ·refine AWp.skip ?_
     refine AE.tn_ ?_
     refine AWp.cut (fun st' => ∃ (v14 : Int), restr [0, 1, 7] [] 0 st'.env st'.H st'.nxt = some ⟨[(0, ⟨.v (.str s), none⟩), (1, ⟨.v (.int .i64 v14), none⟩), (7, ⟨.v (.str v10), none⟩)], [], 0⟩ ∧ F_ap0_j3 n (F_ap0_l2 n s m2) s v10 v14 = some r) ?_ ?_
     ·refine AWp.seq ?_
      refine AWp.rg tt_ok [] (by kernel_rfl) all_nil ?_
      refine AE.tn_ ?_
      refine AWp.cnd h (by kernel_rfl) ?_ ?_ <;> clear h <;> intro h
      ·refine AWp.seq ?_
       refine AWp.rg tt_ok [] (by kernel_rfl) all_nil ?_
       refine AE.tn_ ?_
       refine AWp.seq ?_
       refine AWp.seq ?_
       refine AWp.rg tt_ok [] (by kernel_rfl) all_nil ?_
       refine AE.tn_ ?_
       refine AWp.cnd h (by kernel_rfl) ?_ ?_ <;> clear h <;> intro h
       ·refine AWp.seq ?_
        refine AWp.rg tt_ok [] (by kernel_rfl) all_nil ?_
        refine AE.tn_ ?_
        refine AWp.ret ?_
        obtain rfl := Option.some.inj h
        exact AE.tr_ (AE.tr_ (AE.br_ (AE.tr_ (AE.br_ (AE.tr_ (post_ret (by kernel_rfl)))))))
       ·refine AWp.skip ?_
        refine AE.tn_ ?_
        refine AWp.seq ?_
        obtain ⟨g12, h⟩ := ass_some h
        obtain ⟨g13, h⟩ := ass_some h
        refine AWp.rg tt_ok [] (by kernel_rfl) (all_cons (orT g13) (all_cons g12 all_nil)) ?_
        refine AE.tn_ ?_
        refine AWp.cnd h (by kernel_rfl) ?_ ?_ <;> clear h <;> intro h
        ·refine AWp.seq ?_
         refine AWp.rg tt_ok [] (by kernel_rfl) all_nil ?_
         refine AE.tn_ ?_
         refine AWp.ret ?_
         obtain rfl := Option.some.inj h
         exact AE.tr_ (AE.br_ (AE.tr_ (AE.br_ (AE.tr_ (post_ret (by kernel_rfl))))))
        ·refine AWp.skip ?_
         exact AE.tn_ ⟨(IntKind.i64.wrap (v9 + 1)), by kernel_rfl, h⟩
      ·refine AWp.seq ?_
       refine AWp.rg tt_ok [] (by kernel_rfl) all_nil ?_
       refine AE.tn_ ?_
       refine AWp.cnd h (by kernel_rfl) ?_ ?_ <;> clear h <;> intro h
       ·refine AWp.seq ?_
        refine AWp.rg tt_ok [] (by kernel_rfl) all_nil ?_
        refine AE.tn_ ?_
        refine AWp.ret ?_
        obtain rfl := Option.some.inj h
        exact AE.tr_ (AE.br_ (AE.tr_ (AE.br_ (AE.tr_ (post_ret (by kernel_rfl))))))
       ·refine AWp.skip ?_
        exact AE.tn_ ⟨v9, by kernel_rfl, h⟩
     ·clear h
      rintro st' ⟨v14, hr', h⟩
      refine AWp.drop _ _ _ hr' (by kernel_rfl) ?_
      clear hr' st'
      unfold F_ap0_j3 at h
      refine AWp.seq ?_
      refine AWp.seq ?_
      refine AWp.rg tt_ok [] (by kernel_rfl) all_nil ?_
      refine AE.tn_ ?_
      refine AWp.cnd h (by kernel_rfl) ?_ ?_ <;> clear h <;> intro h
      ·refine AWp.seq ?_
       refine AWp.rg tt_ok [] (by kernel_rfl) all_nil ?_
       refine AE.tn_ ?_
       refine AWp.ret ?_
       obtain rfl := Option.some.inj h
       exact AE.tr_ (AE.br_ (AE.tr_ (AE.br_ (AE.tr_ (post_ret (by kernel_rfl))))))
      ·refine AWp.skip ?_
       refine AE.tn_ ?_
       refine AWp.seq ?_
       obtain ⟨g15, h⟩ := ass_some h
       obtain ⟨g16, h⟩ := ass_some h
       refine AWp.rg tt_ok [] (by kernel_rfl) (all_cons g16 (all_cons g15 all_nil)) ?_
       refine AE.tn_ ?_
       refine AWp.rg tt_ok [] (by kernel_rfl) all_nil ?_
       exact AE.bn_ (AE.tn_ ⟨((IntKind.i64.wrap (v14 + 1)), (v10 ++ ((s.take ((IntKind.i64.wrap (v14 + 1))).toNat).drop (v14).toNat))), by kernel_rfl, h⟩)
   ·refine AWp.exit ?_
    exact AE.tx_ (AE.tx_ (AE.block_hit (AE.tn_ ⟨v9, by kernel_rfl, h⟩)))
 ·clear h
  rintro st' ⟨v19, hr', h⟩
  refine AWp.drop _ _ _ hr' (by kernel_rfl) ?_
  clear hr' st'
  unfold F_ap0_j1 at h
  refine AWp.seq ?_
  refine AWp.rg tt_ok [] (by kernel_rfl) all_nil ?_
  refine AE.tn_ ?_
  refine AWp.ret ?_
  obtain rfl := Option.some.inj h
  exact post_ret (by kernel_rfl)
theorem c_bc0 (n : Nat) (s : List UInt8) (at_ : Int) (r : Token × Int × Int) (h : F_bc0 n s at_ = some r) : saysOf Tryz.prog 80 [.v (.str s), .v (.int .i64 at_)] [] [] (.ret (.tup [.v (.agg [.int .i64 r.1.Kind, .str r.1.Text, .int .i64 r.1.N, .int .i64 r.1.Line]), .v (.int .i64 r.2.1), .v (.int .i64 r.2.2)]) none) [] := by
 refine sw_ tt_ok Tryz.func80 rfl rfl rfl ?_
 unfold F_bc0 at h
 refine AWp.seq ?_
 refine AWp.rg tt_ok [] (by kernel_rfl) all_nil ?_
 refine AE.tn_ ?_
 refine AWp.seq ?_
 refine AWp.seq ?_
 obtain ⟨g1, h⟩ := ass_some h
 refine AWp.rg tt_ok [] (by kernel_rfl) (all_cons g1 all_nil) ?_
 refine AE.tn_ ?_
 refine AWp.cnd h (by kernel_rfl) ?_ ?_ <;> clear h <;> intro h
 ·refine AWp.seq ?_
  obtain ⟨r3, hr3, h⟩ := bind_some h
  have pr3 := c_ap0 n s at_ _ hr3
  refine AWp.rg tt_ok [orn pr3 []] (by kernel_rfl) (all_cons pr3 all_nil) ?_
  refine AE.tn_ ?_
  refine AWp.seq ?_
  refine AWp.rg tt_ok [] (by kernel_rfl) all_nil ?_
  refine AE.tn_ ?_
  refine AWp.ret ?_
  obtain rfl := Option.some.inj h
  exact AE.tr_ (post_ret (by kernel_rfl))
 ·refine AWp.skip ?_
  refine AE.tn_ ?_
  refine AWp.seq ?_
  refine AWp.seq ?_
  obtain ⟨g4, h⟩ := ass_some h
  obtain ⟨r5, hr5, h⟩ := bind_some h
  have pr5 := c_cy0 n (((s.getD (at_).toNat 0).toNat : Nat) : Int) _ hr5
  refine AWp.rg tt_ok [orn pr5 []] (by kernel_rfl) (all_cons pr5 (all_cons g4 all_nil)) ?_
  refine AE.tn_ ?_
  refine AWp.cnd h (by kernel_rfl) ?_ ?_ <;> clear h <;> intro h
  ·refine AWp.seq ?_
   obtain ⟨r7, hr7, h⟩ := bind_some h
   have pr7 := c_bh0 n s at_ _ hr7
   refine AWp.rg tt_ok [orn pr7 []] (by kernel_rfl) (all_cons pr7 all_nil) ?_
   refine AE.tn_ ?_
   refine AWp.seq ?_
   obtain ⟨g8, h⟩ := ass_some h
   obtain ⟨r9, hr9, h⟩ := bind_some h
   have pr9 := c_dg0 n ((s.take (r7).toNat).drop (at_).toNat) _ hr9
   refine AWp.rg tt_ok [orn pr9 []] (by kernel_rfl) (all_cons pr9 (all_cons g8 all_nil)) ?_
   refine AE.tn_ ?_
   refine AWp.seq ?_
   refine AWp.rg tt_ok [] (by kernel_rfl) all_nil ?_
   refine AE.tn_ ?_
   refine AWp.ret ?_
   obtain rfl := Option.some.inj h
   exact AE.tr_ (post_ret (by kernel_rfl))
  ·refine AWp.skip ?_
   refine AE.tn_ ?_
   refine AWp.seq ?_
   obtain ⟨r10, hr10, h⟩ := bind_some h
   have pr10 := c_dk0 n _ hr10
   refine AWp.rg tt_ok [orn pr10 []] (by kernel_rfl) (all_cons pr10 all_nil) ?_
   refine AE.tn_ ?_
   refine AWp.cut (fun st' => restr [1, 4] [0] 1 st'.env st'.H st'.nxt = some ⟨[(1, ⟨.v (.int .i64 at_), none⟩), (4, ⟨.ptr 0 0, none⟩)], [(0, [⟨.v (.int .i64 0), none⟩, ⟨.v (.str ([] : List UInt8)), none⟩, ⟨.v (.int .i64 0), none⟩, ⟨.v (.int .i64 0), none⟩])], 1⟩ ∧ F_bc0_j1 n at_ = some r) ?_ ?_
   ·refine AWp.seq ?_
    refine AWp.rg tt_ok [] (by kernel_rfl) all_nil ?_
    refine AE.tn_ ?_
    refine AWp.block ?_
    refine AWp.loop (σ := Int) (fun zm zs zst => restr [0, 1, 4, 13, 14] [0] 1 zst.env zst.H zst.nxt = some ⟨[(0, ⟨.v (.str s), none⟩), (1, ⟨.v (.int .i64 at_), none⟩), (4, ⟨.ptr 0 0, none⟩), (13, ⟨.v (encL 1 e_str r10), (some 9)⟩), (14, ⟨.v (.int .i64 zs), none⟩)], [(0, [⟨.v (.int .i64 0), none⟩, ⟨.v (.str ([] : List UInt8)), none⟩, ⟨.v (.int .i64 0), none⟩, ⟨.v (.int .i64 0), none⟩])], 1⟩ ∧ F_bc0_l2 n s at_ r10 zm zs = some r) ?_ (n := n) (s := 0) ⟨by kernel_rfl, h⟩
    clear h
    rintro m2 v18 st' ⟨hr', h⟩
    cases m2 with
    | zero =>
     have h2 : (none : Option _) = some r := h
     cases h2
    | succ m2 =>
     refine ⟨m2, rfl, AWp.drop _ _ _ hr' (by kernel_rfl) ?_⟩
     clear hr' st'
     replace h : F_bc0_b2 n s at_ r10 (F_bc0_l2 n s at_ r10 m2) v18 = some r := h
     unfold F_bc0_b2 at h
     refine AWp.seq ?_
     refine AWp.seq ?_
     refine AWp.rg tt_ok [] (by kernel_rfl) all_nil ?_
     refine AE.tn_ ?_
     refine AWp.cnd h (by kernel_rfl) ?_ ?_ <;> clear h <;> intro h
     ·refine AWp.skip ?_
      refine AE.tn_ ?_
      refine AWp.seq ?_
      refine AWp.block ?_
      refine AWp.seq ?_
      obtain ⟨g19, h⟩ := ass_some h
      obtain ⟨g20, h⟩ := ass_some h
      obtain ⟨g21, h⟩ := ass_some h
      obtain ⟨g22, h⟩ := ass_some h
      refine AWp.rgD tt_ok mo_ok [(3, [.raw]), (16, [.raw]), (23, [.raw])] (by kernel_rfl) (all_cons (orT g22) (all_cons (orT g21) (all_cons (orT g20) (all_cons g19 all_nil)))) ?_
      refine AE.tn_ ?_
      refine AWp.cnd h (by kernel_rfl) ?_ ?_ <;> clear h <;> intro h
      ·refine AWp.seq ?_
       obtain ⟨g23, h⟩ := ass_some h
       obtain ⟨g24, h⟩ := ass_some h
       refine AWp.rgD tt_ok mo_ok [(2, [.raw]), (8, [.raw])] (by kernel_rfl) (all_cons g24 (all_cons g23 all_nil)) ?_
       refine AE.tn_ ?_
       refine AWp.ret ?_
       obtain rfl := Option.some.inj h
       exact AE.br_ (AE.tr_ (AE.tr_ (AE.br_ (AE.tr_ (post_ret (by kernel_rfl))))))
      ·refine AWp.skip ?_
       refine AE.bn_ (AE.tn_ ?_)
       refine AWp.rg tt_ok [] (by kernel_rfl) all_nil ?_
       exact AE.tn_ ⟨(IntKind.i64.wrap (v18 + 1)), by kernel_rfl, h⟩
     ·refine AWp.exit ?_
      exact AE.tx_ (AE.tx_ (AE.block_hit (AE.tn_ ⟨by kernel_rfl, h⟩)))
   ·clear h
    rintro st' ⟨hr', h⟩
    refine AWp.drop _ _ _ hr' (by kernel_rfl) ?_
    clear hr' st'
    unfold F_bc0_j1 at h
    refine AWp.seq ?_
    refine AWp.rg tt_ok [] (by kernel_rfl) all_nil ?_
    refine AE.tn_ ?_
    refine AWp.ret ?_
    obtain rfl := Option.some.inj h
    exact post_ret (by kernel_rfl)
theorem c_ao0 (n : Nat) (src : List UInt8) (r : (List Token) × Int × Int) (h : F_ao0 n src = some r) : saysOf Tryz.prog 34 [.v (.str src)] [] [] (.ret (.tup [.v (encL 4 enc_Token r.1), .v (.int .i64 r.2.1), .v (.int .i64 r.2.2)]) none) [] := by
 refine sw_ tt_ok Tryz.func34 rfl rfl rfl ?_
 unfold F_ao0 at h
 refine AWp.seq ?_
 refine AWp.rg tt_ok [] (by kernel_rfl) all_nil ?_
 refine AE.tn_ ?_
 refine AWp.seq ?_
 refine AWp.seq ?_
 refine AWp.rg tt_ok [] (by kernel_rfl) all_nil ?_
 refine AE.tn_ ?_
 refine AWp.cnd h (by kernel_rfl) ?_ ?_ <;> clear h <;> intro h
 ·refine AWp.seq ?_
  refine AWp.rg tt_ok [] (by kernel_rfl) all_nil ?_
  refine AE.tn_ ?_
  refine AWp.ret ?_
  obtain rfl := Option.some.inj h
  exact AE.tr_ (post_ret (by kernel_rfl))
 ·refine AWp.skip ?_
  refine AE.tn_ ?_
  refine AWp.seq ?_
  refine AWp.rg tt_ok [] (by kernel_rfl) all_nil ?_
  refine AE.tn_ ?_
  refine AWp.seq ?_
  obtain ⟨r2, hr2, h⟩ := bind_some h
  have pr2 := c_an0 n src 0 _ hr2
  refine AWp.rg tt_ok [orn pr2 []] (by kernel_rfl) (all_cons pr2 all_nil) ?_
  refine AE.tn_ ?_
  refine AWp.cut (fun st' => ∃ (v17 : List Token), restr [5] [] 0 st'.env st'.H st'.nxt = some ⟨[(5, ⟨.v (encL 4 enc_Token v17), (some 100)⟩)], [], 0⟩ ∧ F_ao0_j1 n v17 = some r) ?_ ?_
  ·refine AWp.block ?_
   refine AWp.loop (σ := (List Token) × Int) (fun zm zs zst => restr [0, 5, 6] [] 0 zst.env zst.H zst.nxt = some ⟨[(0, ⟨.v (.str src), none⟩), (5, ⟨.v (encL 4 enc_Token zs.1), (some 100)⟩), (6, ⟨.v (.int .i64 zs.2), none⟩)], [], 0⟩ ∧ F_ao0_l2 n src zm zs.1 zs.2 = some r) ?_ (n := n) (s := (([] : List Token), r2)) ⟨by kernel_rfl, h⟩
   clear h
   rintro m2 ⟨v9, v10⟩ st' ⟨hr', h⟩
   cases m2 with
   | zero =>
    have h2 : (none : Option _) = some r := h
    cases h2
   | succ m2 =>
    refine ⟨m2, rfl, AWp.drop _ _ _ hr' (by kernel_rfl) ?_⟩
    clear hr' st'
    replace h : F_ao0_b2 n src (F_ao0_l2 n src m2) v9 v10 = some r := h
    unfold F_ao0_b2 at h
    refine AWp.seq ?_
    refine AWp.seq ?_
    refine AWp.rg tt_ok [] (by kernel_rfl) all_nil ?_
    refine AE.tn_ ?_
    refine AWp.cnd h (by kernel_rfl) ?_ ?_ <;> clear h <;> intro h
    ·refine AWp.skip ?_
     refine AE.tn_ ?_
     refine AWp.block ?_
     refine AWp.seq ?_
     obtain ⟨r11, hr11, h⟩ := bind_some h
     have pr11 := c_av0 n src v10 _ hr11
     refine AWp.rg tt_ok [orn pr11 []] (by kernel_rfl) (all_cons pr11 all_nil) ?_
     refine AE.tn_ ?_
     refine AWp.seq ?_
     obtain ⟨r12, hr12, h⟩ := bind_some h
     have pr12 := c_bc0 n src v10 _ hr12
     refine AWp.rg tt_ok [orn pr12 []] (by kernel_rfl) (all_cons pr12 all_nil) ?_
     refine AE.tn_ ?_
     refine AWp.seq ?_
     refine AWp.seq ?_
     refine AWp.rg tt_ok [] (by kernel_rfl) all_nil ?_
     refine AE.tn_ ?_
     refine AWp.cnd h (by kernel_rfl) ?_ ?_ <;> clear h <;> intro h
     ·refine AWp.seq ?_
      refine AWp.rg tt_ok [] (by kernel_rfl) all_nil ?_
      refine AE.tn_ ?_
      refine AWp.ret ?_
      obtain rfl := Option.some.inj h
      exact AE.tr_ (AE.br_ (AE.tr_ (AE.br_ (AE.tr_ (post_ret (by kernel_rfl))))))
     ·refine AWp.skip ?_
      refine AE.tn_ ?_
      refine AWp.seq ?_
      refine AWp.rg tt_ok [] (by kernel_rfl) all_nil ?_
      refine AE.tn_ ?_
      refine AWp.seq ?_
      obtain ⟨g13, h⟩ := ass_some h
      refine AWp.rg tt_ok [.val (encL 4 enc_Token ([(⟨r12.1.Kind, r12.1.Text, r12.1.N, (IntKind.i64.wrap (r11 + 1))⟩ : Token)] : List Token)), .val (encL 4 enc_Token (v9 ++ ([(⟨r12.1.Kind, r12.1.Text, r12.1.N, (IntKind.i64.wrap (r11 + 1))⟩ : Token)] : List Token)))] (by kernel_rfl) (all_cons (vimp_app (k := 4) (e := enc_Token) v9 ([(⟨r12.1.Kind, r12.1.Text, r12.1.N, (IntKind.i64.wrap (r11 + 1))⟩ : Token)] : List Token)) (all_cons g13 (all_cons (vimp_litm (k := 4) (e := enc_Token) ([(⟨r12.1.Kind, r12.1.Text, r12.1.N, (IntKind.i64.wrap (r11 + 1))⟩ : Token)] : List Token)) all_nil))) ?_
      refine AE.tn_ ?_
      obtain ⟨r14, hr14, h⟩ := bind_some h
      have pr14 := c_an0 n src r12.2.1 _ hr14
      refine AWp.rg tt_ok [orn pr14 []] (by kernel_rfl) (all_cons pr14 all_nil) ?_
      exact AE.bn_ (AE.tn_ ⟨((v9 ++ ([(⟨r12.1.Kind, r12.1.Text, r12.1.N, (IntKind.i64.wrap (r11 + 1))⟩ : Token)] : List Token)), r14), by kernel_rfl, h⟩)
    ·refine AWp.exit ?_
     exact AE.tx_ (AE.tx_ (AE.block_hit (AE.tn_ ⟨v9, by kernel_rfl, h⟩)))
  ·clear h
   rintro st' ⟨v17, hr', h⟩
   refine AWp.drop _ _ _ hr' (by kernel_rfl) ?_
   clear hr' st'
   unfold F_ao0_j1 at h
   refine AWp.seq ?_
   refine AWp.rg tt_ok [] (by kernel_rfl) all_nil ?_
   refine AE.tn_ ?_
   refine AWp.ret ?_
   obtain rfl := Option.some.inj h
   exact post_ret (by kernel_rfl)
theorem c_aq0 (n : Nat) (op : Int) (r : Int) (h : F_aq0 n op = some r) : saysOf Tryz.prog 162 [.v (.int .i64 op)] [] [] (.ret (.v (.int .i64 r)) none) [] := by
 refine sw_ tt_ok Tryz.func162 rfl rfl rfl ?_
 unfold F_aq0 at h
 refine AWp.seq ?_
 refine AWp.rg tt_ok [] (by kernel_rfl) all_nil ?_
 refine AE.tn_ ?_
 refine AWp.cut (fun st' => restr [0] [] 0 st'.env st'.H st'.nxt = some ⟨[(0, ⟨.v (.int .i64 op), none⟩)], [], 0⟩ ∧ F_aq0_j1 n op = some r) ?_ ?_
 ·refine AWp.seq ?_
  refine AWp.rg tt_ok [] (by kernel_rfl) all_nil ?_
  refine AE.tn_ ?_
  refine AWp.block ?_
  refine AWp.cut (fun st' => ∃ (v1 : Bool), restr [0, 3, 4] [] 0 st'.env st'.H st'.nxt = some ⟨[(0, ⟨.v (.int .i64 op), none⟩), (3, ⟨.v (.int .i64 op), none⟩), (4, ⟨.v (.bool v1), none⟩)], [], 0⟩ ∧ F_aq0_j2 n op v1 = some r) ?_ ?_
  ·refine AWp.seq ?_
   refine AWp.rg tt_ok [] (by kernel_rfl) all_nil ?_
   refine AE.tn_ ?_
   refine AWp.cnd h (by kernel_rfl) ?_ ?_ <;> clear h <;> intro h
   ·refine AWp.skip ?_
    exact AE.tn_ ⟨(decide (op = 1)), by kernel_rfl, h⟩
   ·refine AWp.seq ?_
    refine AWp.rg tt_ok [] (by kernel_rfl) all_nil ?_
    refine AE.tn_ ?_
    refine AWp.cnd h (by kernel_rfl) ?_ ?_ <;> clear h <;> intro h
    ·refine AWp.skip ?_
     exact AE.tn_ ⟨(decide (op = 2)), by kernel_rfl, h⟩
    ·refine AWp.seq ?_
     refine AWp.rg tt_ok [] (by kernel_rfl) all_nil ?_
     refine AE.tn_ ?_
     refine AWp.cnd h (by kernel_rfl) ?_ ?_ <;> clear h <;> intro h
     ·refine AWp.skip ?_
      exact AE.tn_ ⟨(decide (op = 3)), by kernel_rfl, h⟩
     ·refine AWp.seq ?_
      refine AWp.rg tt_ok [] (by kernel_rfl) all_nil ?_
      refine AE.tn_ ?_
      refine AWp.cnd h (by kernel_rfl) ?_ ?_ <;> clear h <;> intro h
      ·refine AWp.skip ?_
       exact AE.tn_ ⟨(decide (op = 25)), by kernel_rfl, h⟩
      ·refine AWp.seq ?_
       refine AWp.rg tt_ok [] (by kernel_rfl) all_nil ?_
       refine AE.tn_ ?_
       refine AWp.cnd h (by kernel_rfl) ?_ ?_ <;> clear h <;> intro h
       ·refine AWp.skip ?_
        exact AE.tn_ ⟨(decide (op = 26)), by kernel_rfl, h⟩
       ·refine AWp.rg tt_ok [] (by kernel_rfl) all_nil ?_
        exact AE.tn_ ⟨(decide (op = 27)), by kernel_rfl, h⟩
  ·clear h
   rintro st' ⟨v1, hr', h⟩
   refine AWp.drop _ _ _ hr' (by kernel_rfl) ?_
   clear hr' st'
   unfold F_aq0_j2 at h
   refine AWp.cnd h (by kernel_rfl) ?_ ?_ <;> clear h <;> intro h
   ·refine AWp.seq ?_
    refine AWp.rg tt_ok [] (by kernel_rfl) all_nil ?_
    refine AE.tn_ ?_
    refine AWp.ret ?_
    obtain rfl := Option.some.inj h
    exact AE.br_ (AE.tr_ (post_ret (by kernel_rfl)))
   ·refine AWp.cut (fun st' => ∃ (v2 : Bool), restr [0, 11] [] 0 st'.env st'.H st'.nxt = some ⟨[(0, ⟨.v (.int .i64 op), none⟩), (11, ⟨.v (.bool v2), none⟩)], [], 0⟩ ∧ F_aq0_j3 n op v2 = some r) ?_ ?_
    ·refine AWp.seq ?_
     refine AWp.rg tt_ok [] (by kernel_rfl) all_nil ?_
     refine AE.tn_ ?_
     refine AWp.cnd h (by kernel_rfl) ?_ ?_ <;> clear h <;> intro h
     ·refine AWp.skip ?_
      exact AE.tn_ ⟨(decide (op = 9)), by kernel_rfl, h⟩
     ·refine AWp.seq ?_
      refine AWp.rg tt_ok [] (by kernel_rfl) all_nil ?_
      refine AE.tn_ ?_
      refine AWp.cnd h (by kernel_rfl) ?_ ?_ <;> clear h <;> intro h
      ·refine AWp.skip ?_
       exact AE.tn_ ⟨(decide (op = 18)), by kernel_rfl, h⟩
      ·refine AWp.seq ?_
       refine AWp.rg tt_ok [] (by kernel_rfl) all_nil ?_
       refine AE.tn_ ?_
       refine AWp.cnd h (by kernel_rfl) ?_ ?_ <;> clear h <;> intro h
       ·refine AWp.skip ?_
        exact AE.tn_ ⟨(decide (op = 20)), by kernel_rfl, h⟩
       ·refine AWp.seq ?_
        refine AWp.rg tt_ok [] (by kernel_rfl) all_nil ?_
        refine AE.tn_ ?_
        refine AWp.cnd h (by kernel_rfl) ?_ ?_ <;> clear h <;> intro h
        ·refine AWp.skip ?_
         exact AE.tn_ ⟨(decide (op = 21)), by kernel_rfl, h⟩
        ·refine AWp.seq ?_
         refine AWp.rg tt_ok [] (by kernel_rfl) all_nil ?_
         refine AE.tn_ ?_
         refine AWp.cnd h (by kernel_rfl) ?_ ?_ <;> clear h <;> intro h
         ·refine AWp.skip ?_
          exact AE.tn_ ⟨(decide (op = 22)), by kernel_rfl, h⟩
         ·refine AWp.seq ?_
          refine AWp.rg tt_ok [] (by kernel_rfl) all_nil ?_
          refine AE.tn_ ?_
          refine AWp.cnd h (by kernel_rfl) ?_ ?_ <;> clear h <;> intro h
          ·refine AWp.skip ?_
           exact AE.tn_ ⟨(decide (op = 23)), by kernel_rfl, h⟩
          ·refine AWp.rg tt_ok [] (by kernel_rfl) all_nil ?_
           exact AE.tn_ ⟨(decide (op = 24)), by kernel_rfl, h⟩
    ·clear h
     rintro st' ⟨v2, hr', h⟩
     refine AWp.drop _ _ _ hr' (by kernel_rfl) ?_
     clear hr' st'
     unfold F_aq0_j3 at h
     refine AWp.cnd h (by kernel_rfl) ?_ ?_ <;> clear h <;> intro h
     ·refine AWp.seq ?_
      refine AWp.rg tt_ok [] (by kernel_rfl) all_nil ?_
      refine AE.tn_ ?_
      refine AWp.ret ?_
      obtain rfl := Option.some.inj h
      exact AE.br_ (AE.tr_ (post_ret (by kernel_rfl)))
     ·refine AWp.skip ?_
      exact AE.bn_ (AE.tn_ ⟨by kernel_rfl, h⟩)
 ·clear h
  rintro st' ⟨hr', h⟩
  refine AWp.drop _ _ _ hr' (by kernel_rfl) ?_
  clear hr' st'
  unfold F_aq0_j1 at h
  refine AWp.seq ?_
  refine AWp.seq ?_
  refine AWp.rg tt_ok [] (by kernel_rfl) all_nil ?_
  refine AE.tn_ ?_
  refine AWp.cnd h (by kernel_rfl) ?_ ?_ <;> clear h <;> intro h
  ·refine AWp.seq ?_
   refine AWp.rg tt_ok [] (by kernel_rfl) all_nil ?_
   refine AE.tn_ ?_
   refine AWp.ret ?_
   obtain rfl := Option.some.inj h
   exact AE.tr_ (post_ret (by kernel_rfl))
  ·refine AWp.skip ?_
   refine AE.tn_ ?_
   refine AWp.seq ?_
   refine AWp.rg tt_ok [] (by kernel_rfl) all_nil ?_
   refine AE.tn_ ?_
   refine AWp.ret ?_
   obtain rfl := Option.some.inj h
   exact post_ret (by kernel_rfl)
theorem c_be0 (n : Nat) (s : List UInt8) (r : Bool) (h : F_be0 n s = some r) : saysOf Tryz.prog 163 [.v (.str s)] [] [] (.ret (.v (.bool r)) none) [] := by
 refine sw_ tt_ok Tryz.func163 rfl rfl rfl ?_
 unfold F_be0 at h
 refine AWp.seq ?_
 refine AWp.rg tt_ok [] (by kernel_rfl) all_nil ?_
 refine AE.tn_ ?_
 refine AWp.seq ?_
 refine AWp.seq ?_
 refine AWp.rg tt_ok [] (by kernel_rfl) all_nil ?_
 refine AE.tn_ ?_
 refine AWp.cnd h (by kernel_rfl) ?_ ?_ <;> clear h <;> intro h
 ·refine AWp.seq ?_
  refine AWp.rg tt_ok [] (by kernel_rfl) all_nil ?_
  refine AE.tn_ ?_
  refine AWp.ret ?_
  obtain rfl := Option.some.inj h
  exact AE.tr_ (post_ret (by kernel_rfl))
 ·refine AWp.skip ?_
  refine AE.tn_ ?_
  refine AWp.cut (fun st' => restr [] [] 0 st'.env st'.H st'.nxt = some ⟨[], [], 0⟩ ∧ F_be0_j1 n = some r) ?_ ?_
  ·refine AWp.seq ?_
   refine AWp.rg tt_ok [] (by kernel_rfl) all_nil ?_
   refine AE.tn_ ?_
   refine AWp.block ?_
   refine AWp.loop (σ := Int) (fun zm zs zst => restr [0, 3] [] 0 zst.env zst.H zst.nxt = some ⟨[(0, ⟨.v (.str s), none⟩), (3, ⟨.v (.int .i64 zs), none⟩)], [], 0⟩ ∧ F_be0_l2 n s zm zs = some r) ?_ (n := n) (s := 0) ⟨by kernel_rfl, h⟩
   clear h
   rintro m2 v5 st' ⟨hr', h⟩
   cases m2 with
   | zero =>
    have h2 : (none : Option _) = some r := h
    cases h2
   | succ m2 =>
    refine ⟨m2, rfl, AWp.drop _ _ _ hr' (by kernel_rfl) ?_⟩
    clear hr' st'
    replace h : F_be0_b2 n s (F_be0_l2 n s m2) v5 = some r := h
    unfold F_be0_b2 at h
    refine AWp.seq ?_
    refine AWp.seq ?_
    refine AWp.rg tt_ok [] (by kernel_rfl) all_nil ?_
    refine AE.tn_ ?_
    refine AWp.cnd h (by kernel_rfl) ?_ ?_ <;> clear h <;> intro h
    ·refine AWp.skip ?_
     refine AE.tn_ ?_
     refine AWp.seq ?_
     refine AWp.block ?_
     refine AWp.seq ?_
     obtain ⟨g6, h⟩ := ass_some h
     obtain ⟨g7, h⟩ := ass_some h
     refine AWp.rg tt_ok [] (by kernel_rfl) (all_cons (orF g7) (all_cons g6 all_nil)) ?_
     refine AE.tn_ ?_
     refine AWp.cnd h (by kernel_rfl) ?_ ?_ <;> clear h <;> intro h
     ·refine AWp.seq ?_
      refine AWp.rg tt_ok [] (by kernel_rfl) all_nil ?_
      refine AE.tn_ ?_
      refine AWp.ret ?_
      obtain rfl := Option.some.inj h
      exact AE.br_ (AE.tr_ (AE.tr_ (AE.br_ (AE.tr_ (post_ret (by kernel_rfl))))))
     ·refine AWp.skip ?_
      refine AE.bn_ (AE.tn_ ?_)
      refine AWp.rg tt_ok [] (by kernel_rfl) all_nil ?_
      exact AE.tn_ ⟨(IntKind.i64.wrap (v5 + 1)), by kernel_rfl, h⟩
    ·refine AWp.exit ?_
     exact AE.tx_ (AE.tx_ (AE.block_hit (AE.tn_ ⟨by kernel_rfl, h⟩)))
  ·clear h
   rintro st' ⟨hr', h⟩
   refine AWp.drop _ _ _ hr' (by kernel_rfl) ?_
   clear hr' st'
   unfold F_be0_j1 at h
   refine AWp.seq ?_
   refine AWp.rg tt_ok [] (by kernel_rfl) all_nil ?_
   refine AE.tn_ ?_
   refine AWp.ret ?_
   obtain rfl := Option.some.inj h
   exact post_ret (by kernel_rfl)
theorem c_dh0 (n : Nat) (e : Expr) (depth : Int) (r : Int) (h : F_dh0 n e depth = some r) : saysOf Tryz.prog 133 [.v (.agg [.int .i64 e.Op, .int .i64 e.N, .str e.S, encL 4 enc_Expr e.Args]), .v (.int .i64 depth)] [] [] (.ret (.v (.int .i64 r)) none) [] := by
 refine sw_ tt_ok Tryz.func133 rfl rfl rfl ?_
 unfold F_dh0 at h
 refine AWp.seq ?_
 refine AWp.rg tt_ok [] (by kernel_rfl) all_nil ?_
 refine AE.tn_ ?_
 refine AWp.seq ?_
 refine AWp.seq ?_
 obtain ⟨r1, hr1, h⟩ := bind_some h
 have pr1 := c_aq0 n e.Op _ hr1
 refine AWp.rg tt_ok [orn pr1 []] (by kernel_rfl) (all_cons pr1 all_nil) ?_
 refine AE.tn_ ?_
 refine AWp.cnd h (by kernel_rfl) ?_ ?_ <;> clear h <;> intro h
 ·refine AWp.seq ?_
  refine AWp.rg tt_ok [] (by kernel_rfl) all_nil ?_
  refine AE.tn_ ?_
  refine AWp.ret ?_
  obtain rfl := Option.some.inj h
  exact AE.tr_ (post_ret (by kernel_rfl))
 ·refine AWp.skip ?_
  refine AE.tn_ ?_
  refine AWp.seq ?_
  refine AWp.seq ?_
  obtain ⟨r3, hr3, h⟩ := bind_some h
  have pr3 := fun c1 => c_bw0 n e.S _ (cond_t c1 hr3)
  refine AWp.rg tt_ok [orn1 pr3] (by kernel_rfl) (all_cons pr3 all_nil) ?_
  refine AE.tn_ ?_
  refine AWp.cnd h (by kernel_rfl) ?_ ?_ <;> clear h <;> intro h
  ·refine AWp.seq ?_
   refine AWp.rg tt_ok [] (by kernel_rfl) all_nil ?_
   refine AE.tn_ ?_
   refine AWp.ret ?_
   obtain rfl := Option.some.inj h
   exact AE.tr_ (post_ret (by kernel_rfl))
  ·refine AWp.skip ?_
   refine AE.tn_ ?_
   refine AWp.seq ?_
   refine AWp.seq ?_
   obtain ⟨r5, hr5, h⟩ := bind_some h
   have pr5 := fun c1 c2 => c_be0 n e.S _ (cond_t (and_t (not_t c1) c2) hr5)
   obtain ⟨r6, hr6, h⟩ := bind_some h
   have pr6 := fun c1 => c_aq0 n e.Op _ (cond_t (not_t c1) hr6)
   refine AWp.rgD tt_ok mo_ok [(10, [orn2 pr5]), (20, [orn1 pr6])] (by kernel_rfl) (all_cons pr6 (all_cons pr5 all_nil)) ?_
   refine AE.tn_ ?_
   refine AWp.cnd h (by kernel_rfl) ?_ ?_ <;> clear h <;> intro h
   ·refine AWp.seq ?_
    refine AWp.rg tt_ok [] (by kernel_rfl) all_nil ?_
    refine AE.tn_ ?_
    refine AWp.ret ?_
    obtain rfl := Option.some.inj h
    exact AE.tr_ (post_ret (by kernel_rfl))
   ·refine AWp.skip ?_
    refine AE.tn_ ?_
    refine AWp.seq ?_
    refine AWp.seq ?_
    refine AWp.rg tt_ok [] (by kernel_rfl) all_nil ?_
    refine AE.tn_ ?_
    refine AWp.cnd h (by kernel_rfl) ?_ ?_ <;> clear h <;> intro h
    ·refine AWp.seq ?_
     refine AWp.rg tt_ok [] (by kernel_rfl) all_nil ?_
     refine AE.tn_ ?_
     refine AWp.ret ?_
     obtain rfl := Option.some.inj h
     exact AE.tr_ (post_ret (by kernel_rfl))
    ·refine AWp.skip ?_
     refine AE.tn_ ?_
     refine AWp.seq ?_
     refine AWp.rg tt_ok [] (by kernel_rfl) all_nil ?_
     refine AE.tn_ ?_
     refine AWp.ret ?_
     obtain rfl := Option.some.inj h
     exact post_ret (by kernel_rfl)
theorem cB_ref08_valid (n : Nat) (f_ah0 : Expr → Int → Option Int) (i_ah0 : ∀ (e : Expr) (depth : Int) (r : Int), f_ah0 e depth = some r → saysOf Tryz.prog 84 [.v (.agg [.int .i64 e.Op, .int .i64 e.N, .str e.S, encL 4 enc_Expr e.Args]), .v (.int .i64 depth)] [] [] (.ret (.v (.int .i64 r)) none) []) (e : Expr) (depth : Int) (r : Int) (h : B_ah0 n f_ah0 e depth = some r) : saysOf Tryz.prog 84 [.v (.agg [.int .i64 e.Op, .int .i64 e.N, .str e.S, encL 4 enc_Expr e.Args]), .v (.int .i64 depth)] [] [] (.ret (.v (.int .i64 r)) none) [] := by
 refine sw_ tt_ok Tryz.func84 rfl rfl rfl ?_
 unfold B_ah0 at h
 refine AWp.seq ?_
 refine AWp.rg tt_ok [] (by kernel_rfl) all_nil ?_
 refine AE.tn_ ?_
 refine AWp.seq ?_
 refine AWp.seq ?_
 obtain ⟨r1, hr1, h⟩ := bind_some h
 have pr1 := c_dh0 n e depth _ hr1
 refine AWp.rg tt_ok [orn pr1 []] (by kernel_rfl) (all_cons pr1 all_nil) ?_
 refine AE.tn_ ?_
 refine AWp.seq ?_
 refine AWp.rg tt_ok [] (by kernel_rfl) all_nil ?_
 refine AE.tn_ ?_
 refine AWp.cnd h (by kernel_rfl) ?_ ?_ <;> clear h <;> intro h
 ·refine AWp.seq ?_
  refine AWp.rg tt_ok [] (by kernel_rfl) all_nil ?_
  refine AE.tn_ ?_
  refine AWp.ret ?_
  obtain rfl := Option.some.inj h
  exact AE.tr_ (post_ret (by kernel_rfl))
 ·refine AWp.skip ?_
  refine AE.tn_ ?_
  refine AWp.cut (fun st' => restr [] [] 0 st'.env st'.H st'.nxt = some ⟨[], [], 0⟩ ∧ F_ah0_j1 n f_ah0 = some r) ?_ ?_
  ·refine AWp.seq ?_
   refine AWp.rg tt_ok [] (by kernel_rfl) all_nil ?_
   refine AE.tn_ ?_
   refine AWp.block ?_
   refine AWp.loop (σ := Int) (fun zm zs zst => restr [1, 2, 6] [0] 1 zst.env zst.H zst.nxt = some ⟨[(1, ⟨.v (.int .i64 depth), none⟩), (2, ⟨.ptr 0 0, none⟩), (6, ⟨.v (.int .i64 zs), none⟩)], [(0, [⟨.v (.int .i64 e.Op), none⟩, ⟨.v (.int .i64 e.N), none⟩, ⟨.v (.str e.S), none⟩, ⟨.v (encL 4 enc_Expr e.Args), none⟩])], 1⟩ ∧ F_ah0_l2 n f_ah0 depth e zm zs = some r) ?_ (n := n) (s := 0) ⟨by kernel_rfl, h⟩
   clear h
   rintro m2 v6 st' ⟨hr', h⟩
   cases m2 with
   | zero =>
    have h2 : (none : Option _) = some r := h
    cases h2
   | succ m2 =>
    refine ⟨m2, rfl, AWp.drop _ _ _ hr' (by kernel_rfl) ?_⟩
    clear hr' st'
    replace h : F_ah0_b2 n f_ah0 depth e (F_ah0_l2 n f_ah0 depth e m2) v6 = some r := h
    unfold F_ah0_b2 at h
    refine AWp.seq ?_
    refine AWp.seq ?_
    refine AWp.rg tt_ok [] (by kernel_rfl) all_nil ?_
    refine AE.tn_ ?_
    refine AWp.cnd h (by kernel_rfl) ?_ ?_ <;> clear h <;> intro h
    ·refine AWp.skip ?_
     refine AE.tn_ ?_
     refine AWp.seq ?_
     refine AWp.block ?_
     refine AWp.seq ?_
     obtain ⟨g7, h⟩ := ass_some h
     obtain ⟨r8, hr8, h⟩ := bind_some h
     have pr8 := i_ah0 (e.Args.getD (v6).toNat default) (IntKind.i64.wrap (depth + 1)) _ hr8
     refine AWp.rg tt_ok [orv (enc_vimp_Expr (e.Args.getD (v6).toNat default)), orn pr8 []] (by kernel_rfl) (all_cons pr8 (all_cons (enc_vimp_Expr (e.Args.getD (v6).toNat default)) (all_cons g7 all_nil))) ?_
     refine AE.tn_ ?_
     refine AWp.seq ?_
     refine AWp.rg tt_ok [] (by kernel_rfl) all_nil ?_
     refine AE.tn_ ?_
     refine AWp.cnd h (by kernel_rfl) ?_ ?_ <;> clear h <;> intro h
     ·refine AWp.seq ?_
      refine AWp.rg tt_ok [] (by kernel_rfl) all_nil ?_
      refine AE.tn_ ?_
      refine AWp.ret ?_
      obtain rfl := Option.some.inj h
      exact AE.br_ (AE.tr_ (AE.tr_ (AE.br_ (AE.tr_ (post_ret (by kernel_rfl))))))
     ·refine AWp.skip ?_
      refine AE.bn_ (AE.tn_ ?_)
      refine AWp.rg tt_ok [] (by kernel_rfl) all_nil ?_
      exact AE.tn_ ⟨(IntKind.i64.wrap (v6 + 1)), by kernel_rfl, h⟩
    ·refine AWp.exit ?_
     exact AE.tx_ (AE.tx_ (AE.block_hit (AE.tn_ ⟨by kernel_rfl, h⟩)))
  ·clear h
   rintro st' ⟨hr', h⟩
   refine AWp.drop _ _ _ hr' (by kernel_rfl) ?_
   clear hr' st'
   unfold F_ah0_j1 at h
   refine AWp.seq ?_
   refine AWp.rg tt_ok [] (by kernel_rfl) all_nil ?_
   refine AE.tn_ ?_
   refine AWp.ret ?_
   obtain rfl := Option.some.inj h
   exact post_ret (by kernel_rfl)
theorem c_ah0 (n : Nat) : ∀ (e : Expr) (depth : Int) (r : Int), F_ah0 n e depth = some r → saysOf Tryz.prog 84 [.v (.agg [.int .i64 e.Op, .int .i64 e.N, .str e.S, encL 4 enc_Expr e.Args]), .v (.int .i64 depth)] [] [] (.ret (.v (.int .i64 r)) none) [] := by
 induction n with
 | zero => intro e depth r h; have h2 : (none : Option _) = some r := h; cases h2
 | succ m ih => intro e depth r h; exact cB_ref08_valid m (F_ah0 m) ih e depth r h
theorem c_cd0 (n : Nat) (e : Expr) (r : Int) (h : F_cd0 n e = some r) : saysOf Tryz.prog 38 [.v (.agg [.int .i64 e.Op, .int .i64 e.N, .str e.S, encL 4 enc_Expr e.Args])] [] [] (.ret (.v (.int .i64 r)) none) [] := by
 refine sw_ tt_ok Tryz.func38 rfl rfl rfl ?_
 unfold F_cd0 at h
 refine AWp.seq ?_
 refine AWp.rg tt_ok [] (by kernel_rfl) all_nil ?_
 refine AE.tn_ ?_
 refine AWp.seq ?_
 obtain ⟨r1, hr1, h⟩ := bind_some h
 have pr1 := c_ah0 n e 1 _ hr1
 refine AWp.rg tt_ok [orn pr1 []] (by kernel_rfl) (all_cons pr1 all_nil) ?_
 refine AE.tn_ ?_
 refine AWp.ret ?_
 obtain rfl := Option.some.inj h
 exact post_ret (by kernel_rfl)
theorem c_az0 (n : Nat) (l : List Token) (at_ : Int) (text : List UInt8) (r : Bool) (h : F_az0 n l at_ text = some r) : saysOf Tryz.prog 130 [.v (encL 4 enc_Token l), .v (.int .i64 at_), .v (.str text)] [] [] (.ret (.v (.bool r)) none) [] := by
 refine sw_ tt_ok Tryz.func130 rfl rfl rfl ?_
 unfold F_az0 at h
 refine AWp.seq ?_
 refine AWp.rg tt_ok [] (by kernel_rfl) all_nil ?_
 refine AE.tn_ ?_
 refine AWp.seq ?_
 obtain ⟨g1, h⟩ := ass_some h
 obtain ⟨g2, h⟩ := ass_some h
 obtain ⟨g3, h⟩ := ass_some h
 refine AWp.rg tt_ok [.raw, .raw, .raw] (by kernel_rfl) (all_cons (orT g3) (all_cons (fun c1 c2 => (orF (orT g2 c1) c2)) (all_cons (orT g1) all_nil))) ?_
 refine AE.tn_ ?_
 refine AWp.ret ?_
 obtain rfl := Option.some.inj h
 exact post_ret (by kernel_rfl)
theorem c_bb0 (n : Nat) (l : List Token) (at_ : Int) (level : Int) (r : Int) (h : F_bb0 n l at_ level = some r) : saysOf Tryz.prog 83 [.v (encL 4 enc_Token l), .v (.int .i64 at_), .v (.int .i64 level)] [] [] (.ret (.v (.int .i64 r)) none) [] := by
 refine sw_ tt_ok Tryz.func83 rfl rfl rfl ?_
 unfold F_bb0 at h
 refine AWp.seq ?_
 refine AWp.rg tt_ok [] (by kernel_rfl) all_nil ?_
 refine AE.tn_ ?_
 refine AWp.seq ?_
 refine AWp.rg tt_ok [.val (encL 1 e_str ([([111, 114] : List UInt8), ([97, 110, 100] : List UInt8), ([61, 61] : List UInt8), ([33, 61] : List UInt8), ([60] : List UInt8), ([60, 61] : List UInt8), ([62] : List UInt8), ([62, 61] : List UInt8), ([43, 43] : List UInt8), ([43] : List UInt8), ([45] : List UInt8), ([42] : List UInt8), ([47] : List UInt8), ([37] : List UInt8)] : List (List UInt8)))] (by kernel_rfl) (all_cons (vimp_litm (k := 1) (e := e_str) ([([111, 114] : List UInt8), ([97, 110, 100] : List UInt8), ([61, 61] : List UInt8), ([33, 61] : List UInt8), ([60] : List UInt8), ([60, 61] : List UInt8), ([62] : List UInt8), ([62, 61] : List UInt8), ([43, 43] : List UInt8), ([43] : List UInt8), ([45] : List UInt8), ([42] : List UInt8), ([47] : List UInt8), ([37] : List UInt8)] : List (List UInt8))) all_nil) ?_
 refine AE.tn_ ?_
 refine AWp.seq ?_
 refine AWp.rg tt_ok [.val (encL 1 e_i64 ([17, 16, 10, 11, 12, 13, 14, 15, 19, 4, 5, 6, 7, 8] : List Int))] (by kernel_rfl) (all_cons (vimp_litm (k := 1) (e := e_i64) ([17, 16, 10, 11, 12, 13, 14, 15, 19, 4, 5, 6, 7, 8] : List Int)) all_nil) ?_
 refine AE.tn_ ?_
 refine AWp.seq ?_
 refine AWp.rg tt_ok [.val (encL 1 e_i64 ([1, 2, 4, 4, 4, 4, 4, 4, 5, 6, 6, 7, 7, 7] : List Int))] (by kernel_rfl) (all_cons (vimp_litm (k := 1) (e := e_i64) ([1, 2, 4, 4, 4, 4, 4, 4, 5, 6, 6, 7, 7, 7] : List Int)) all_nil) ?_
 refine AE.tn_ ?_
 refine AWp.cut (fun st' => restr [] [] 0 st'.env st'.H st'.nxt = some ⟨[], [], 0⟩ ∧ F_bb0_j1 n = some r) ?_ ?_
 ·refine AWp.seq ?_
  refine AWp.rg tt_ok [] (by kernel_rfl) all_nil ?_
  refine AE.tn_ ?_
  refine AWp.block ?_
  refine AWp.loop (σ := Int) (fun zm zs zst => restr [0, 1, 2, 7, 8, 9, 10] [] 0 zst.env zst.H zst.nxt = some ⟨[(0, ⟨.v (encL 4 enc_Token l), none⟩), (1, ⟨.v (.int .i64 at_), none⟩), (2, ⟨.v (.int .i64 level), none⟩), (7, ⟨.v (encL 1 e_str ([([111, 114] : List UInt8), ([97, 110, 100] : List UInt8), ([61, 61] : List UInt8), ([33, 61] : List UInt8), ([60] : List UInt8), ([60, 61] : List UInt8), ([62] : List UInt8), ([62, 61] : List UInt8), ([43, 43] : List UInt8), ([43] : List UInt8), ([45] : List UInt8), ([42] : List UInt8), ([47] : List UInt8), ([37] : List UInt8)] : List (List UInt8))), (some 9)⟩), (8, ⟨.v (encL 1 e_i64 ([17, 16, 10, 11, 12, 13, 14, 15, 19, 4, 5, 6, 7, 8] : List Int)), (some 3)⟩), (9, ⟨.v (encL 1 e_i64 ([1, 2, 4, 4, 4, 4, 4, 4, 5, 6, 6, 7, 7, 7] : List Int)), (some 3)⟩), (10, ⟨.v (.int .i64 zs), none⟩)], [], 0⟩ ∧ F_bb0_l2 n l at_ level zm zs = some r) ?_ (n := n) (s := 0) ⟨by kernel_rfl, h⟩
  clear h
  rintro m2 v6 st' ⟨hr', h⟩
  cases m2 with
  | zero =>
   have h2 : (none : Option _) = some r := h
   cases h2
  | succ m2 =>
   refine ⟨m2, rfl, AWp.drop _ _ _ hr' (by kernel_rfl) ?_⟩
   clear hr' st'
   replace h : F_bb0_b2 n l at_ level (F_bb0_l2 n l at_ level m2) v6 = some r := h
   unfold F_bb0_b2 at h
   refine AWp.seq ?_
   refine AWp.seq ?_
   refine AWp.rg tt_ok [] (by kernel_rfl) all_nil ?_
   refine AE.tn_ ?_
   refine AWp.cnd h (by kernel_rfl) ?_ ?_ <;> clear h <;> intro h
   ·refine AWp.skip ?_
    refine AE.tn_ ?_
    refine AWp.seq ?_
    refine AWp.block ?_
    refine AWp.seq ?_
    obtain ⟨g7, h⟩ := ass_some h
    obtain ⟨g8, h⟩ := ass_some h
    obtain ⟨r9, hr9, h⟩ := bind_some h
    have pr9 := fun c1 => c_az0 n l at_ (([([111, 114] : List UInt8), ([97, 110, 100] : List UInt8), ([61, 61] : List UInt8), ([33, 61] : List UInt8), ([60] : List UInt8), ([60, 61] : List UInt8), ([62] : List UInt8), ([62, 61] : List UInt8), ([43, 43] : List UInt8), ([43] : List UInt8), ([45] : List UInt8), ([42] : List UInt8), ([47] : List UInt8), ([37] : List UInt8)] : List (List UInt8)).getD (v6).toNat default) _ (cond_t c1 hr9)
    refine AWp.rg tt_ok [.raw, .raw, orn1 pr9] (by kernel_rfl) (all_cons pr9 (all_cons (orT g8) (all_cons g7 all_nil))) ?_
    refine AE.tn_ ?_
    refine AWp.cnd h (by kernel_rfl) ?_ ?_ <;> clear h <;> intro h
    ·refine AWp.seq ?_
     obtain ⟨g10, h⟩ := ass_some h
     refine AWp.rg tt_ok [.raw] (by kernel_rfl) (all_cons g10 all_nil) ?_
     refine AE.tn_ ?_
     refine AWp.ret ?_
     obtain rfl := Option.some.inj h
     exact AE.br_ (AE.tr_ (AE.tr_ (AE.br_ (AE.tr_ (post_ret (by kernel_rfl))))))
    ·refine AWp.skip ?_
     refine AE.bn_ (AE.tn_ ?_)
     refine AWp.rg tt_ok [] (by kernel_rfl) all_nil ?_
     exact AE.tn_ ⟨(IntKind.i64.wrap (v6 + 1)), by kernel_rfl, h⟩
   ·refine AWp.exit ?_
    exact AE.tx_ (AE.tx_ (AE.block_hit (AE.tn_ ⟨by kernel_rfl, h⟩)))
 ·clear h
  rintro st' ⟨hr', h⟩
  refine AWp.drop _ _ _ hr' (by kernel_rfl) ?_
  clear hr' st'
  unfold F_bb0_j1 at h
  refine AWp.seq ?_
  refine AWp.rg tt_ok [] (by kernel_rfl) all_nil ?_
  refine AE.tn_ ?_
  refine AWp.ret ?_
  obtain rfl := Option.some.inj h
  exact post_ret (by kernel_rfl)
theorem c_dd0 (n : Nat) (l : List Token) (at_ : Int) (level : Int) (r : Int) (h : F_dd0 n l at_ level = some r) : saysOf Tryz.prog 82 [.v (encL 4 enc_Token l), .v (.int .i64 at_), .v (.int .i64 level)] [] [] (.ret (.v (.int .i64 r)) none) [] := by
 refine sw_ tt_ok Tryz.func82 rfl rfl rfl ?_
 unfold F_dd0 at h
 refine AWp.seq ?_
 refine AWp.rg tt_ok [] (by kernel_rfl) all_nil ?_
 refine AE.tn_ ?_
 refine AWp.seq ?_
 refine AWp.seq ?_
 obtain ⟨r1, hr1, h⟩ := bind_some h
 have pr1 := fun c1 => c_az0 n l at_ ([110, 111, 116] : List UInt8) _ (cond_t c1 hr1)
 refine AWp.rg tt_ok [orn1 pr1] (by kernel_rfl) (all_cons pr1 all_nil) ?_
 refine AE.tn_ ?_
 refine AWp.cnd h (by kernel_rfl) ?_ ?_ <;> clear h <;> intro h
 ·refine AWp.seq ?_
  refine AWp.rg tt_ok [] (by kernel_rfl) all_nil ?_
  refine AE.tn_ ?_
  refine AWp.ret ?_
  obtain rfl := Option.some.inj h
  exact AE.tr_ (post_ret (by kernel_rfl))
 ·refine AWp.skip ?_
  refine AE.tn_ ?_
  refine AWp.seq ?_
  refine AWp.seq ?_
  obtain ⟨r3, hr3, h⟩ := bind_some h
  have pr3 := fun c1 => c_az0 n l at_ ([45] : List UInt8) _ (cond_t c1 hr3)
  refine AWp.rg tt_ok [orn1 pr3] (by kernel_rfl) (all_cons pr3 all_nil) ?_
  refine AE.tn_ ?_
  refine AWp.cnd h (by kernel_rfl) ?_ ?_ <;> clear h <;> intro h
  ·refine AWp.seq ?_
   refine AWp.rg tt_ok [] (by kernel_rfl) all_nil ?_
   refine AE.tn_ ?_
   refine AWp.ret ?_
   obtain rfl := Option.some.inj h
   exact AE.tr_ (post_ret (by kernel_rfl))
  ·refine AWp.skip ?_
   refine AE.tn_ ?_
   refine AWp.seq ?_
   refine AWp.rg tt_ok [] (by kernel_rfl) all_nil ?_
   refine AE.tn_ ?_
   refine AWp.ret ?_
   obtain rfl := Option.some.inj h
   exact post_ret (by kernel_rfl)
theorem c_bp0 (n : Nat) (l : List Token) (at_ : Int) (r : Int) (h : F_bp0 n l at_ = some r) : saysOf Tryz.prog 129 [.v (encL 4 enc_Token l), .v (.int .i64 at_)] [] [] (.ret (.v (.int .i64 r)) none) [] := by
 refine sw_ tt_ok Tryz.func129 rfl rfl rfl ?_
 unfold F_bp0 at h
 refine AWp.seq ?_
 refine AWp.rg tt_ok [] (by kernel_rfl) all_nil ?_
 refine AE.tn_ ?_
 refine AWp.seq ?_
 refine AWp.rg tt_ok [.val (encL 1 e_str ([([116, 101, 120, 116] : List UInt8), ([108, 101, 110] : List UInt8), ([103, 101, 116, 105, 110, 116] : List UInt8), ([103, 101, 116, 115, 116, 114] : List UInt8), ([104, 97, 115] : List UInt8), ([110, 111, 119] : List UInt8), ([114, 97, 110, 100, 111, 109] : List UInt8), ([110, 111, 100, 101] : List UInt8)] : List (List UInt8)))] (by kernel_rfl) (all_cons (vimp_litm (k := 1) (e := e_str) ([([116, 101, 120, 116] : List UInt8), ([108, 101, 110] : List UInt8), ([103, 101, 116, 105, 110, 116] : List UInt8), ([103, 101, 116, 115, 116, 114] : List UInt8), ([104, 97, 115] : List UInt8), ([110, 111, 119] : List UInt8), ([114, 97, 110, 100, 111, 109] : List UInt8), ([110, 111, 100, 101] : List UInt8)] : List (List UInt8))) all_nil) ?_
 refine AE.tn_ ?_
 refine AWp.seq ?_
 refine AWp.rg tt_ok [.val (encL 1 e_i64 ([20, 21, 22, 23, 24, 25, 26, 27] : List Int))] (by kernel_rfl) (all_cons (vimp_litm (k := 1) (e := e_i64) ([20, 21, 22, 23, 24, 25, 26, 27] : List Int)) all_nil) ?_
 refine AE.tn_ ?_
 refine AWp.cut (fun st' => restr [] [] 0 st'.env st'.H st'.nxt = some ⟨[], [], 0⟩ ∧ F_bp0_j1 n = some r) ?_ ?_
 ·refine AWp.seq ?_
  refine AWp.rg tt_ok [] (by kernel_rfl) all_nil ?_
  refine AE.tn_ ?_
  refine AWp.block ?_
  refine AWp.loop (σ := Int) (fun zm zs zst => restr [0, 1, 5, 6, 7] [] 0 zst.env zst.H zst.nxt = some ⟨[(0, ⟨.v (encL 4 enc_Token l), none⟩), (1, ⟨.v (.int .i64 at_), none⟩), (5, ⟨.v (encL 1 e_str ([([116, 101, 120, 116] : List UInt8), ([108, 101, 110] : List UInt8), ([103, 101, 116, 105, 110, 116] : List UInt8), ([103, 101, 116, 115, 116, 114] : List UInt8), ([104, 97, 115] : List UInt8), ([110, 111, 119] : List UInt8), ([114, 97, 110, 100, 111, 109] : List UInt8), ([110, 111, 100, 101] : List UInt8)] : List (List UInt8))), (some 9)⟩), (6, ⟨.v (encL 1 e_i64 ([20, 21, 22, 23, 24, 25, 26, 27] : List Int)), (some 3)⟩), (7, ⟨.v (.int .i64 zs), none⟩)], [], 0⟩ ∧ F_bp0_l2 n l at_ zm zs = some r) ?_ (n := n) (s := 0) ⟨by kernel_rfl, h⟩
  clear h
  rintro m2 v5 st' ⟨hr', h⟩
  cases m2 with
  | zero =>
   have h2 : (none : Option _) = some r := h
   cases h2
  | succ m2 =>
   refine ⟨m2, rfl, AWp.drop _ _ _ hr' (by kernel_rfl) ?_⟩
   clear hr' st'
   replace h : F_bp0_b2 n l at_ (F_bp0_l2 n l at_ m2) v5 = some r := h
   unfold F_bp0_b2 at h
   refine AWp.seq ?_
   refine AWp.seq ?_
   refine AWp.rg tt_ok [] (by kernel_rfl) all_nil ?_
   refine AE.tn_ ?_
   refine AWp.cnd h (by kernel_rfl) ?_ ?_ <;> clear h <;> intro h
   ·refine AWp.skip ?_
    refine AE.tn_ ?_
    refine AWp.seq ?_
    refine AWp.block ?_
    refine AWp.seq ?_
    obtain ⟨g6, h⟩ := ass_some h
    obtain ⟨r7, hr7, h⟩ := bind_some h
    have pr7 := c_az0 n l at_ (([([116, 101, 120, 116] : List UInt8), ([108, 101, 110] : List UInt8), ([103, 101, 116, 105, 110, 116] : List UInt8), ([103, 101, 116, 115, 116, 114] : List UInt8), ([104, 97, 115] : List UInt8), ([110, 111, 119] : List UInt8), ([114, 97, 110, 100, 111, 109] : List UInt8), ([110, 111, 100, 101] : List UInt8)] : List (List UInt8)).getD (v5).toNat default) _ hr7
    refine AWp.rg tt_ok [.raw, orn pr7 []] (by kernel_rfl) (all_cons pr7 (all_cons g6 all_nil)) ?_
    refine AE.tn_ ?_
    refine AWp.cnd h (by kernel_rfl) ?_ ?_ <;> clear h <;> intro h
    ·refine AWp.seq ?_
     obtain ⟨g8, h⟩ := ass_some h
     refine AWp.rg tt_ok [.raw] (by kernel_rfl) (all_cons g8 all_nil) ?_
     refine AE.tn_ ?_
     refine AWp.ret ?_
     obtain rfl := Option.some.inj h
     exact AE.br_ (AE.tr_ (AE.tr_ (AE.br_ (AE.tr_ (post_ret (by kernel_rfl))))))
    ·refine AWp.skip ?_
     refine AE.bn_ (AE.tn_ ?_)
     refine AWp.rg tt_ok [] (by kernel_rfl) all_nil ?_
     exact AE.tn_ ⟨(IntKind.i64.wrap (v5 + 1)), by kernel_rfl, h⟩
   ·refine AWp.exit ?_
    exact AE.tx_ (AE.tx_ (AE.block_hit (AE.tn_ ⟨by kernel_rfl, h⟩)))
 ·clear h
  rintro st' ⟨hr', h⟩
  refine AWp.drop _ _ _ hr' (by kernel_rfl) ?_
  clear hr' st'
  unfold F_bp0_j1 at h
  refine AWp.seq ?_
  refine AWp.rg tt_ok [] (by kernel_rfl) all_nil ?_
  refine AE.tn_ ?_
  refine AWp.ret ?_
  obtain rfl := Option.some.inj h
  exact post_ret (by kernel_rfl)
theorem c_cb0 (n : Nat) (l : List Token) (at_ : Int) (r : Int) (h : F_cb0 n l at_ = some r) : saysOf Tryz.prog 131 [.v (encL 4 enc_Token l), .v (.int .i64 at_)] [] [] (.ret (.v (.int .i64 r)) none) [] := by
 refine sw_ tt_ok Tryz.func131 rfl rfl rfl ?_
 unfold F_cb0 at h
 refine AWp.seq ?_
 refine AWp.rg tt_ok [] (by kernel_rfl) all_nil ?_
 refine AE.tn_ ?_
 refine AWp.seq ?_
 refine AWp.seq ?_
 refine AWp.rg tt_ok [] (by kernel_rfl) all_nil ?_
 refine AE.tn_ ?_
 refine AWp.cnd h (by kernel_rfl) ?_ ?_ <;> clear h <;> intro h
 ·refine AWp.seq ?_
  refine AWp.rg tt_ok [] (by kernel_rfl) all_nil ?_
  refine AE.tn_ ?_
  refine AWp.ret ?_
  obtain rfl := Option.some.inj h
  exact AE.tr_ (post_ret (by kernel_rfl))
 ·refine AWp.skip ?_
  refine AE.tn_ ?_
  refine AWp.seq ?_
  refine AWp.rg tt_ok [] (by kernel_rfl) all_nil ?_
  refine AE.tn_ ?_
  refine AWp.ret ?_
  obtain rfl := Option.some.inj h
  exact post_ret (by kernel_rfl)
theorem c_af0 (n : Nat) (l : List Token) (at_ : Int) (words : List (List UInt8)) (r : Int × Int) (h : F_af0 n l at_ words = some r) : saysOf Tryz.prog 90 [.v (encL 4 enc_Token l), .v (.int .i64 at_), .v (encL 1 e_str words)] [] [] (.ret (.tup [.v (.int .i64 r.1), .v (.int .i64 r.2)]) none) [] := by
 refine sw_ tt_ok Tryz.func90 rfl rfl rfl ?_
 unfold F_af0 at h
 refine AWp.seq ?_
 refine AWp.rg tt_ok [] (by kernel_rfl) all_nil ?_
 refine AE.tn_ ?_
 refine AWp.cut (fun st' => ∃ (v13 : Int), restr [1] [] 0 st'.env st'.H st'.nxt = some ⟨[(1, ⟨.v (.int .i64 v13), none⟩)], [], 0⟩ ∧ F_af0_j1 n v13 = some r) ?_ ?_
 ·refine AWp.seq ?_
  refine AWp.rg tt_ok [] (by kernel_rfl) all_nil ?_
  refine AE.tn_ ?_
  refine AWp.block ?_
  refine AWp.loop (σ := Int × Int) (fun zm zs zst => restr [0, 1, 2, 8] [] 0 zst.env zst.H zst.nxt = some ⟨[(0, ⟨.v (encL 4 enc_Token l), none⟩), (1, ⟨.v (.int .i64 zs.1), none⟩), (2, ⟨.v (encL 1 e_str words), none⟩), (8, ⟨.v (.int .i64 zs.2), none⟩)], [], 0⟩ ∧ F_af0_l2 n l words zm zs.1 zs.2 = some r) ?_ (n := n) (s := (at_, 0)) ⟨by kernel_rfl, h⟩
  clear h
  rintro m2 ⟨v6, v7⟩ st' ⟨hr', h⟩
  cases m2 with
  | zero =>
   have h2 : (none : Option _) = some r := h
   cases h2
  | succ m2 =>
   refine ⟨m2, rfl, AWp.drop _ _ _ hr' (by kernel_rfl) ?_⟩
   clear hr' st'
   replace h : F_af0_b2 n l words (F_af0_l2 n l words m2) v6 v7 = some r := h
   unfold F_af0_b2 at h
   refine AWp.seq ?_
   refine AWp.seq ?_
   refine AWp.rg tt_ok [] (by kernel_rfl) all_nil ?_
   refine AE.tn_ ?_
   refine AWp.cnd h (by kernel_rfl) ?_ ?_ <;> clear h <;> intro h
   ·refine AWp.skip ?_
    refine AE.tn_ ?_
    refine AWp.seq ?_
    refine AWp.block ?_
    refine AWp.seq ?_
    refine AWp.seq ?_
    obtain ⟨g8, h⟩ := ass_some h
    obtain ⟨r9, hr9, h⟩ := bind_some h
    have pr9 := c_az0 n l v6 (words.getD (v7).toNat default) _ hr9
    refine AWp.rg tt_ok [.raw, orn pr9 []] (by kernel_rfl) (all_cons pr9 (all_cons g8 all_nil)) ?_
    refine AE.tn_ ?_
    refine AWp.cnd h (by kernel_rfl) ?_ ?_ <;> clear h <;> intro h
    ·refine AWp.seq ?_
     obtain ⟨r10, hr10, h⟩ := bind_some h
     have pr10 := c_cb0 n l v6 _ hr10
     refine AWp.rg tt_ok [orn pr10 []] (by kernel_rfl) (all_cons pr10 all_nil) ?_
     refine AE.tn_ ?_
     refine AWp.ret ?_
     obtain rfl := Option.some.inj h
     exact AE.tr_ (AE.br_ (AE.tr_ (AE.tr_ (AE.br_ (AE.tr_ (post_ret (by kernel_rfl)))))))
    ·refine AWp.skip ?_
     refine AE.tn_ ?_
     refine AWp.rg tt_ok [] (by kernel_rfl) all_nil ?_
     refine AE.bn_ (AE.tn_ ?_)
     refine AWp.rg tt_ok [] (by kernel_rfl) all_nil ?_
     exact AE.tn_ ⟨((IntKind.i64.wrap (v6 + 1)), (IntKind.i64.wrap (v7 + 1))), by kernel_rfl, h⟩
   ·refine AWp.exit ?_
    exact AE.tx_ (AE.tx_ (AE.block_hit (AE.tn_ ⟨v6, by kernel_rfl, h⟩)))
 ·clear h
  rintro st' ⟨v13, hr', h⟩
  refine AWp.drop _ _ _ hr' (by kernel_rfl) ?_
  clear hr' st'
  unfold F_af0_j1 at h
  refine AWp.seq ?_
  refine AWp.rg tt_ok [] (by kernel_rfl) all_nil ?_
  refine AE.tn_ ?_
  refine AWp.ret ?_
  obtain rfl := Option.some.inj h
  exact post_ret (by kernel_rfl)
theorem cB_ref10_expr (n : Nat) (f_i0 : (List Token) → Int → Int → Int → Option (Expr × Int × Int)) (f_ae0 : (List Token) → Int → Int → Option (Expr × Int × Int)) (f_aa0 : (List Token) → Int → Int → Option (Expr × Int × Int)) (i_i0 : ∀ (l : List Token) (at_ : Int) (level : Int) (n_ : Int) (r : Expr × Int × Int), f_i0 l at_ level n_ = some r → saysOf Tryz.prog 35 [.v (encL 4 enc_Token l), .v (.int .i64 at_), .v (.int .i64 level), .v (.int .i64 n_)] [] [] (.ret (.tup [.v (.agg [.int .i64 r.1.Op, .int .i64 r.1.N, .str r.1.S, encL 4 enc_Expr r.1.Args]), .v (.int .i64 r.2.1), .v (.int .i64 r.2.2)]) none) []) (i_ae0 : ∀ (l : List Token) (at_ : Int) (n_ : Int) (r : Expr × Int × Int), f_ae0 l at_ n_ = some r → saysOf Tryz.prog 81 [.v (encL 4 enc_Token l), .v (.int .i64 at_), .v (.int .i64 n_)] [] [] (.ret (.tup [.v (.agg [.int .i64 r.1.Op, .int .i64 r.1.N, .str r.1.S, encL 4 enc_Expr r.1.Args]), .v (.int .i64 r.2.1), .v (.int .i64 r.2.2)]) none) []) (i_aa0 : ∀ (l : List Token) (at_ : Int) (n_ : Int) (r : Expr × Int × Int), f_aa0 l at_ n_ = some r → saysOf Tryz.prog 132 [.v (encL 4 enc_Token l), .v (.int .i64 at_), .v (.int .i64 n_)] [] [] (.ret (.tup [.v (.agg [.int .i64 r.1.Op, .int .i64 r.1.N, .str r.1.S, encL 4 enc_Expr r.1.Args]), .v (.int .i64 r.2.1), .v (.int .i64 r.2.2)]) none) []) (l : List Token) (at_ : Int) (level : Int) (n_ : Int) (r : Expr × Int × Int) (h : B_i0 n f_i0 f_ae0 f_aa0 l at_ level n_ = some r) : saysOf Tryz.prog 35 [.v (encL 4 enc_Token l), .v (.int .i64 at_), .v (.int .i64 level), .v (.int .i64 n_)] [] [] (.ret (.tup [.v (.agg [.int .i64 r.1.Op, .int .i64 r.1.N, .str r.1.S, encL 4 enc_Expr r.1.Args]), .v (.int .i64 r.2.1), .v (.int .i64 r.2.2)]) none) [] := by
 refine sw_ tt_ok Tryz.func35 rfl rfl rfl ?_
 unfold B_i0 at h
 refine AWp.seq ?_
 refine AWp.rg tt_ok [] (by kernel_rfl) all_nil ?_
 refine AE.tn_ ?_
 refine AWp.seq ?_
 refine AWp.seq ?_
 refine AWp.rg tt_ok [] (by kernel_rfl) all_nil ?_
 refine AE.tn_ ?_
 refine AWp.cnd h (by kernel_rfl) ?_ ?_ <;> clear h <;> intro h
 ·refine AWp.seq ?_
  obtain ⟨r2, hr2, h⟩ := bind_some h
  have pr2 := i_ae0 l at_ n_ _ hr2
  refine AWp.rg tt_ok [orn pr2 []] (by kernel_rfl) (all_cons pr2 all_nil) ?_
  refine AE.tn_ ?_
  refine AWp.ret ?_
  obtain rfl := Option.some.inj h
  exact AE.tr_ (post_ret (by kernel_rfl))
 ·refine AWp.skip ?_
  refine AE.tn_ ?_
  refine AWp.seq ?_
  obtain ⟨r3, hr3, h⟩ := bind_some h
  have pr3 := c_dd0 n l at_ level _ hr3
  refine AWp.rg tt_ok [orn pr3 []] (by kernel_rfl) (all_cons pr3 all_nil) ?_
  refine AE.tn_ ?_
  refine AWp.seq ?_
  refine AWp.seq ?_
  refine AWp.rg tt_ok [] (by kernel_rfl) all_nil ?_
  refine AE.tn_ ?_
  refine AWp.cnd h (by kernel_rfl) ?_ ?_ <;> clear h <;> intro h
  ·refine AWp.seq ?_
   refine AWp.seq ?_
   refine AWp.rg tt_ok [] (by kernel_rfl) all_nil ?_
   refine AE.tn_ ?_
   refine AWp.cnd h (by kernel_rfl) ?_ ?_ <;> clear h <;> intro h
   ·refine AWp.seq ?_
    refine AWp.rg tt_ok [.own] (by kernel_rfl) all_nil ?_
    refine AE.tn_ ?_
    refine AWp.ret ?_
    obtain rfl := Option.some.inj h
    exact AE.tr_ (AE.tr_ (post_ret (by kernel_rfl)))
   ·refine AWp.skip ?_
    refine AE.tn_ ?_
    refine AWp.seq ?_
    obtain ⟨r6, hr6, h⟩ := bind_some h
    have pr6 := i_i0 l (IntKind.i64.wrap (at_ + 1)) level (IntKind.i64.wrap (n_ + 1)) _ hr6
    refine AWp.rg tt_ok [orn pr6 []] (by kernel_rfl) (all_cons pr6 all_nil) ?_
    refine AE.tn_ ?_
    refine AWp.seq ?_
    refine AWp.rg tt_ok [.val (encL 4 enc_Expr ([r6.1] : List Expr))] (by kernel_rfl) (all_cons (vimp_lit2 (k := 4) (e := enc_Expr) (xs := [.agg [.int .i64 r6.1.Op, .int .i64 r6.1.N, .str r6.1.S, encL 4 enc_Expr r6.1.Args]]) (l := ([r6.1] : List Expr)) (AllV.cons (rev_Expr r6.1) (AllV.nil)) 1 rfl) all_nil) ?_
    refine AE.tn_ ?_
    refine AWp.ret ?_
    obtain rfl := Option.some.inj h
    exact AE.tr_ (post_ret (by kernel_rfl))
  ·refine AWp.skip ?_
   refine AE.tn_ ?_
   refine AWp.seq ?_
   obtain ⟨r7, hr7, h⟩ := bind_some h
   have pr7 := i_i0 l at_ (IntKind.i64.wrap (level + 1)) n_ _ hr7
   refine AWp.rg tt_ok [orn pr7 []] (by kernel_rfl) (all_cons pr7 all_nil) ?_
   refine AE.tn_ ?_
   refine AWp.cut (fun st' => ∃ (v30 : Int) (v31 : Int), restr [8, 16, 17] [0] 1 st'.env st'.H st'.nxt = some ⟨[(8, ⟨.ptr 0 0, none⟩), (16, ⟨.v (.int .i64 v30), none⟩), (17, ⟨.v (.int .i64 v31), none⟩)], [(0, [⟨.v (.int .i64 0), none⟩, ⟨.v (.int .i64 0), none⟩, ⟨.v (.str ([] : List UInt8)), none⟩, ⟨.v (encL 4 enc_Expr ([] : List Expr)), (some 26)⟩])], 1⟩ ∧ F_i0_j1 n f_i0 f_ae0 f_aa0 v30 v31 = some r) ?_ ?_
   ·refine AWp.block ?_
    refine AWp.loop (σ := Int × Int × (List UInt8) × (List Expr) × Int × Int) (fun zm zs zst => restr [0, 2, 3, 8, 15, 16, 17] [0, 1] 2 zst.env zst.H zst.nxt = some ⟨[(0, ⟨.v (encL 4 enc_Token l), none⟩), (2, ⟨.v (.int .i64 level), none⟩), (3, ⟨.v (.int .i64 n_), none⟩), (8, ⟨.ptr 0 0, none⟩), (15, ⟨.ptr 1 0, none⟩), (16, ⟨.v (.int .i64 zs.2.2.2.2.1), none⟩), (17, ⟨.v (.int .i64 zs.2.2.2.2.2), none⟩)], [(0, [⟨.v (.int .i64 0), none⟩, ⟨.v (.int .i64 0), none⟩, ⟨.v (.str ([] : List UInt8)), none⟩, ⟨.v (encL 4 enc_Expr ([] : List Expr)), (some 26)⟩]), (1, [⟨.v (.int .i64 zs.1), none⟩, ⟨.v (.int .i64 zs.2.1), none⟩, ⟨.v (.str zs.2.2.1), none⟩, ⟨.v (encL 4 enc_Expr zs.2.2.2.1), none⟩])], 2⟩ ∧ F_i0_l2 n f_i0 f_ae0 f_aa0 l level n_ zm zs.1 zs.2.1 zs.2.2.1 zs.2.2.2.1 zs.2.2.2.2.1 zs.2.2.2.2.2 = some r) ?_ (n := n) (s := (r7.1.Op, r7.1.N, r7.1.S, r7.1.Args, r7.2.1, r7.2.2)) ⟨by kernel_rfl, h⟩
    clear h
    rintro m2 ⟨v16, v17, v18, v19, v20, v21⟩ st' ⟨hr', h⟩
    cases m2 with
    | zero =>
     have h2 : (none : Option _) = some r := h
     cases h2
    | succ m2 =>
     refine ⟨m2, rfl, AWp.drop _ _ _ hr' (by kernel_rfl) ?_⟩
     clear hr' st'
     replace h : F_i0_b2 n f_i0 f_ae0 f_aa0 l level n_ (F_i0_l2 n f_i0 f_ae0 f_aa0 l level n_ m2) v16 v17 v18 v19 v20 v21 = some r := h
     unfold F_i0_b2 at h
     refine AWp.seq ?_
     refine AWp.seq ?_
     refine AWp.rg tt_ok [] (by kernel_rfl) all_nil ?_
     refine AE.tn_ ?_
     refine AWp.cnd h (by kernel_rfl) ?_ ?_ <;> clear h <;> intro h
     ·refine AWp.skip ?_
      refine AE.tn_ ?_
      refine AWp.block ?_
      refine AWp.seq ?_
      obtain ⟨r22, hr22, h⟩ := bind_some h
      have pr22 := c_bb0 n l v20 level _ hr22
      refine AWp.rg tt_ok [orn pr22 []] (by kernel_rfl) (all_cons pr22 all_nil) ?_
      refine AE.tn_ ?_
      refine AWp.seq ?_
      refine AWp.seq ?_
      refine AWp.rg tt_ok [] (by kernel_rfl) all_nil ?_
      refine AE.tn_ ?_
      refine AWp.cnd h (by kernel_rfl) ?_ ?_ <;> clear h <;> intro h
      ·refine AWp.seq ?_
       refine AWp.rg tt_ok [] (by kernel_rfl) all_nil ?_
       refine AE.tn_ ?_
       refine AWp.ret ?_
       obtain rfl := Option.some.inj h
       exact AE.tr_ (AE.br_ (AE.tr_ (AE.br_ (AE.tr_ (post_ret (by kernel_rfl))))))
      ·refine AWp.skip ?_
       refine AE.tn_ ?_
       refine AWp.seq ?_
       obtain ⟨r23, hr23, h⟩ := bind_some h
       have pr23 := i_i0 l (IntKind.i64.wrap (v20 + 1)) (IntKind.i64.wrap (level + 1)) n_ _ hr23
       refine AWp.rg tt_ok [orn pr23 []] (by kernel_rfl) (all_cons pr23 all_nil) ?_
       refine AE.tn_ ?_
       refine AWp.seq ?_
       refine AWp.rg tt_ok [.val (encL 4 enc_Expr ([(⟨v16, v17, v18, v19⟩ : Expr), r23.1] : List Expr))] (by kernel_rfl) (all_cons (vimp_lit2 (k := 4) (e := enc_Expr) (xs := [.agg [.int .i64 v16, .int .i64 v17, .str v18, encL 4 enc_Expr v19], .agg [.int .i64 r23.1.Op, .int .i64 r23.1.N, .str r23.1.S, encL 4 enc_Expr r23.1.Args]]) (l := ([(⟨v16, v17, v18, v19⟩ : Expr), r23.1] : List Expr)) ((AllV.cons (rev_Expr (⟨v16, v17, v18, v19⟩ : Expr)) (AllV.cons (rev_Expr r23.1) (AllV.nil)))) 2 rfl) all_nil) ?_
       refine AE.tn_ ?_
       refine AWp.seq ?_
       refine AWp.rg tt_ok [] (by kernel_rfl) all_nil ?_
       refine AE.tn_ ?_
       refine AWp.seq ?_
       refine AWp.rg tt_ok [] (by kernel_rfl) all_nil ?_
       refine AE.tn_ ?_
       refine AWp.seq ?_
       refine AWp.rg tt_ok [] (by kernel_rfl) all_nil ?_
       refine AE.tn_ ?_
       refine AWp.cnd h (by kernel_rfl) ?_ ?_ <;> clear h <;> intro h
       ·refine AWp.seq ?_
        refine AWp.rg tt_ok [] (by kernel_rfl) all_nil ?_
        refine AE.tn_ ?_
        refine AWp.ret ?_
        obtain rfl := Option.some.inj h
        exact AE.br_ (AE.tr_ (AE.br_ (AE.tr_ (post_ret (by kernel_rfl)))))
       ·refine AWp.skip ?_
        exact AE.bn_ (AE.tn_ ⟨(r22, 0, ([] : List UInt8), ([(⟨v16, v17, v18, v19⟩ : Expr), r23.1] : List Expr), r23.2.1, r23.2.2), by kernel_rfl, h⟩)
     ·refine AWp.exit ?_
      exact AE.tx_ (AE.tx_ (AE.block_hit (AE.tn_ ⟨v20, v21, by kernel_rfl, h⟩)))
   ·clear h
    rintro st' ⟨v30, v31, hr', h⟩
    refine AWp.drop _ _ _ hr' (by kernel_rfl) ?_
    clear hr' st'
    unfold F_i0_j1 at h
    refine AWp.seq ?_
    refine AWp.rg tt_ok [.own] (by kernel_rfl) all_nil ?_
    refine AE.tn_ ?_
    refine AWp.ret ?_
    obtain rfl := Option.some.inj h
    exact post_ret (by kernel_rfl)
theorem cB_ref10_unit (n : Nat) (f_i0 : (List Token) → Int → Int → Int → Option (Expr × Int × Int)) (f_ae0 : (List Token) → Int → Int → Option (Expr × Int × Int)) (f_aa0 : (List Token) → Int → Int → Option (Expr × Int × Int)) (i_i0 : ∀ (l : List Token) (at_ : Int) (level : Int) (n_ : Int) (r : Expr × Int × Int), f_i0 l at_ level n_ = some r → saysOf Tryz.prog 35 [.v (encL 4 enc_Token l), .v (.int .i64 at_), .v (.int .i64 level), .v (.int .i64 n_)] [] [] (.ret (.tup [.v (.agg [.int .i64 r.1.Op, .int .i64 r.1.N, .str r.1.S, encL 4 enc_Expr r.1.Args]), .v (.int .i64 r.2.1), .v (.int .i64 r.2.2)]) none) []) (i_ae0 : ∀ (l : List Token) (at_ : Int) (n_ : Int) (r : Expr × Int × Int), f_ae0 l at_ n_ = some r → saysOf Tryz.prog 81 [.v (encL 4 enc_Token l), .v (.int .i64 at_), .v (.int .i64 n_)] [] [] (.ret (.tup [.v (.agg [.int .i64 r.1.Op, .int .i64 r.1.N, .str r.1.S, encL 4 enc_Expr r.1.Args]), .v (.int .i64 r.2.1), .v (.int .i64 r.2.2)]) none) []) (i_aa0 : ∀ (l : List Token) (at_ : Int) (n_ : Int) (r : Expr × Int × Int), f_aa0 l at_ n_ = some r → saysOf Tryz.prog 132 [.v (encL 4 enc_Token l), .v (.int .i64 at_), .v (.int .i64 n_)] [] [] (.ret (.tup [.v (.agg [.int .i64 r.1.Op, .int .i64 r.1.N, .str r.1.S, encL 4 enc_Expr r.1.Args]), .v (.int .i64 r.2.1), .v (.int .i64 r.2.2)]) none) []) (l : List Token) (at_ : Int) (n_ : Int) (r : Expr × Int × Int) (h : B_ae0 n f_i0 f_ae0 f_aa0 l at_ n_ = some r) : saysOf Tryz.prog 81 [.v (encL 4 enc_Token l), .v (.int .i64 at_), .v (.int .i64 n_)] [] [] (.ret (.tup [.v (.agg [.int .i64 r.1.Op, .int .i64 r.1.N, .str r.1.S, encL 4 enc_Expr r.1.Args]), .v (.int .i64 r.2.1), .v (.int .i64 r.2.2)]) none) [] := by
 refine sw_ tt_ok Tryz.func81 rfl rfl rfl ?_
 unfold B_ae0 at h
 refine AWp.seq ?_
 refine AWp.rg tt_ok [] (by kernel_rfl) all_nil ?_
 refine AE.tn_ ?_
 refine AWp.cut (fun st' => restr [0, 1, 2, 6] [0] 1 st'.env st'.H st'.nxt = some ⟨[(0, ⟨.v (encL 4 enc_Token l), none⟩), (1, ⟨.v (.int .i64 at_), none⟩), (2, ⟨.v (.int .i64 n_), none⟩), (6, ⟨.ptr 0 0, none⟩)], [(0, [⟨.v (.int .i64 0), none⟩, ⟨.v (.int .i64 0), none⟩, ⟨.v (.str ([] : List UInt8)), none⟩, ⟨.v (encL 4 enc_Expr ([] : List Expr)), (some 26)⟩])], 1⟩ ∧ F_ae0_j1 n f_i0 f_ae0 f_aa0 l at_ n_ = some r) ?_ ?_
 ·refine AWp.seq ?_
  refine AWp.rg tt_ok [] (by kernel_rfl) all_nil ?_
  refine AE.tn_ ?_
  refine AWp.cnd h (by kernel_rfl) ?_ ?_ <;> clear h <;> intro h
  ·refine AWp.seq ?_
   obtain ⟨g1, h⟩ := ass_some h
   refine AWp.rg tt_ok [.raw] (by kernel_rfl) (all_cons g1 all_nil) ?_
   refine AE.tn_ ?_
   refine AWp.block ?_
   refine AWp.seq ?_
   refine AWp.rg tt_ok [] (by kernel_rfl) all_nil ?_
   refine AE.tn_ ?_
   refine AWp.cnd h (by kernel_rfl) ?_ ?_ <;> clear h <;> intro h
   ·refine AWp.seq ?_
    obtain ⟨g2, h⟩ := ass_some h
    refine AWp.rg tt_ok [.raw, .own] (by kernel_rfl) (all_cons g2 all_nil) ?_
    refine AE.tn_ ?_
    refine AWp.ret ?_
    obtain rfl := Option.some.inj h
    exact AE.br_ (AE.tr_ (post_ret (by kernel_rfl)))
   ·refine AWp.seq ?_
    refine AWp.rg tt_ok [] (by kernel_rfl) all_nil ?_
    refine AE.tn_ ?_
    refine AWp.cnd h (by kernel_rfl) ?_ ?_ <;> clear h <;> intro h
    ·refine AWp.seq ?_
     obtain ⟨g3, h⟩ := ass_some h
     refine AWp.rg tt_ok [.raw, .own] (by kernel_rfl) (all_cons g3 all_nil) ?_
     refine AE.tn_ ?_
     refine AWp.ret ?_
     obtain rfl := Option.some.inj h
     exact AE.br_ (AE.tr_ (post_ret (by kernel_rfl)))
    ·refine AWp.seq ?_
     refine AWp.rg tt_ok [] (by kernel_rfl) all_nil ?_
     refine AE.tn_ ?_
     refine AWp.cnd h (by kernel_rfl) ?_ ?_ <;> clear h <;> intro h
     ·refine AWp.seq ?_
      obtain ⟨g4, h⟩ := ass_some h
      refine AWp.rg tt_ok [.raw, .own] (by kernel_rfl) (all_cons g4 all_nil) ?_
      refine AE.tn_ ?_
      refine AWp.ret ?_
      obtain rfl := Option.some.inj h
      exact AE.br_ (AE.tr_ (post_ret (by kernel_rfl)))
     ·refine AWp.skip ?_
      exact AE.bn_ (AE.tn_ ⟨by kernel_rfl, h⟩)
  ·refine AWp.skip ?_
   exact AE.tn_ ⟨by kernel_rfl, h⟩
 ·clear h
  rintro st' ⟨hr', h⟩
  refine AWp.drop _ _ _ hr' (by kernel_rfl) ?_
  clear hr' st'
  unfold F_ae0_j1 at h
  refine AWp.seq ?_
  obtain ⟨r5, hr5, h⟩ := bind_some h
  have pr5 := c_bp0 n l at_ _ hr5
  refine AWp.rg tt_ok [orn pr5 []] (by kernel_rfl) (all_cons pr5 all_nil) ?_
  refine AE.tn_ ?_
  refine AWp.seq ?_
  refine AWp.seq ?_
  refine AWp.rg tt_ok [] (by kernel_rfl) all_nil ?_
  refine AE.tn_ ?_
  refine AWp.cnd h (by kernel_rfl) ?_ ?_ <;> clear h <;> intro h
  ·refine AWp.seq ?_
   obtain ⟨r7, hr7, h⟩ := bind_some h
   have pr7 := c_af0 n l (IntKind.i64.wrap (at_ + 1)) ([([40] : List UInt8), ([41] : List UInt8)] : List (List UInt8)) _ hr7
   refine AWp.rg tt_ok [.val (encL 1 e_str ([([40] : List UInt8), ([41] : List UInt8)] : List (List UInt8))), orn pr7 []] (by kernel_rfl) (all_cons pr7 (all_cons (vimp_litm (k := 1) (e := e_str) ([([40] : List UInt8), ([41] : List UInt8)] : List (List UInt8))) all_nil)) ?_
   refine AE.tn_ ?_
   refine AWp.seq ?_
   refine AWp.rg tt_ok [.own] (by kernel_rfl) all_nil ?_
   refine AE.tn_ ?_
   refine AWp.ret ?_
   obtain rfl := Option.some.inj h
   exact AE.tr_ (post_ret (by kernel_rfl))
  ·refine AWp.skip ?_
   refine AE.tn_ ?_
   refine AWp.seq ?_
   refine AWp.seq ?_
   obtain ⟨r8, hr8, h⟩ := bind_some h
   have pr8 := fun c1 => c_az0 n l at_ ([40] : List UInt8) _ (cond_t c1 hr8)
   refine AWp.rg tt_ok [orn1 pr8] (by kernel_rfl) (all_cons pr8 all_nil) ?_
   refine AE.tn_ ?_
   refine AWp.cnd h (by kernel_rfl) ?_ ?_ <;> clear h <;> intro h
   ·refine AWp.seq ?_
    obtain ⟨r10, hr10, h⟩ := bind_some h
    have pr10 := c_cb0 n l at_ _ hr10
    refine AWp.rg tt_ok [.own, orn pr10 []] (by kernel_rfl) (all_cons pr10 all_nil) ?_
    refine AE.tn_ ?_
    refine AWp.ret ?_
    obtain rfl := Option.some.inj h
    exact AE.tr_ (post_ret (by kernel_rfl))
   ·refine AWp.skip ?_
    refine AE.tn_ ?_
    refine AWp.seq ?_
    refine AWp.seq ?_
    refine AWp.rg tt_ok [] (by kernel_rfl) all_nil ?_
    refine AE.tn_ ?_
    refine AWp.cnd h (by kernel_rfl) ?_ ?_ <;> clear h <;> intro h
    ·refine AWp.seq ?_
     refine AWp.rg tt_ok [.own] (by kernel_rfl) all_nil ?_
     refine AE.tn_ ?_
     refine AWp.ret ?_
     obtain rfl := Option.some.inj h
     exact AE.tr_ (post_ret (by kernel_rfl))
    ·refine AWp.skip ?_
     refine AE.tn_ ?_
     refine AWp.seq ?_
     refine AWp.seq ?_
     refine AWp.rg tt_ok [] (by kernel_rfl) all_nil ?_
     refine AE.tn_ ?_
     refine AWp.cnd h (by kernel_rfl) ?_ ?_ <;> clear h <;> intro h
     ·refine AWp.seq ?_
      obtain ⟨r13, hr13, h⟩ := bind_some h
      have pr13 := i_aa0 l at_ (IntKind.i64.wrap (n_ + 1)) _ hr13
      refine AWp.rg tt_ok [orn pr13 []] (by kernel_rfl) (all_cons pr13 all_nil) ?_
      refine AE.tn_ ?_
      refine AWp.ret ?_
      obtain rfl := Option.some.inj h
      exact AE.tr_ (post_ret (by kernel_rfl))
     ·refine AWp.skip ?_
      refine AE.tn_ ?_
      refine AWp.seq ?_
      obtain ⟨r14, hr14, h⟩ := bind_some h
      have pr14 := i_aa0 l (IntKind.i64.wrap (at_ + 1)) (IntKind.i64.wrap (n_ + 1)) _ hr14
      refine AWp.rg tt_ok [orn pr14 []] (by kernel_rfl) (all_cons pr14 all_nil) ?_
      refine AE.tn_ ?_
      refine AWp.seq ?_
      refine AWp.rg tt_ok [.val (encL 4 enc_Expr ([r14.1] : List Expr))] (by kernel_rfl) (all_cons (vimp_lit2 (k := 4) (e := enc_Expr) (xs := [.agg [.int .i64 r14.1.Op, .int .i64 r14.1.N, .str r14.1.S, encL 4 enc_Expr r14.1.Args]]) (l := ([r14.1] : List Expr)) (AllV.cons (rev_Expr r14.1) (AllV.nil)) 1 rfl) all_nil) ?_
      refine AE.tn_ ?_
      refine AWp.ret ?_
      obtain rfl := Option.some.inj h
      exact post_ret (by kernel_rfl)
theorem cB_ref10_inside (n : Nat) (f_i0 : (List Token) → Int → Int → Int → Option (Expr × Int × Int)) (f_ae0 : (List Token) → Int → Int → Option (Expr × Int × Int)) (f_aa0 : (List Token) → Int → Int → Option (Expr × Int × Int)) (i_i0 : ∀ (l : List Token) (at_ : Int) (level : Int) (n_ : Int) (r : Expr × Int × Int), f_i0 l at_ level n_ = some r → saysOf Tryz.prog 35 [.v (encL 4 enc_Token l), .v (.int .i64 at_), .v (.int .i64 level), .v (.int .i64 n_)] [] [] (.ret (.tup [.v (.agg [.int .i64 r.1.Op, .int .i64 r.1.N, .str r.1.S, encL 4 enc_Expr r.1.Args]), .v (.int .i64 r.2.1), .v (.int .i64 r.2.2)]) none) []) (i_ae0 : ∀ (l : List Token) (at_ : Int) (n_ : Int) (r : Expr × Int × Int), f_ae0 l at_ n_ = some r → saysOf Tryz.prog 81 [.v (encL 4 enc_Token l), .v (.int .i64 at_), .v (.int .i64 n_)] [] [] (.ret (.tup [.v (.agg [.int .i64 r.1.Op, .int .i64 r.1.N, .str r.1.S, encL 4 enc_Expr r.1.Args]), .v (.int .i64 r.2.1), .v (.int .i64 r.2.2)]) none) []) (i_aa0 : ∀ (l : List Token) (at_ : Int) (n_ : Int) (r : Expr × Int × Int), f_aa0 l at_ n_ = some r → saysOf Tryz.prog 132 [.v (encL 4 enc_Token l), .v (.int .i64 at_), .v (.int .i64 n_)] [] [] (.ret (.tup [.v (.agg [.int .i64 r.1.Op, .int .i64 r.1.N, .str r.1.S, encL 4 enc_Expr r.1.Args]), .v (.int .i64 r.2.1), .v (.int .i64 r.2.2)]) none) []) (l : List Token) (at_ : Int) (n_ : Int) (r : Expr × Int × Int) (h : B_aa0 n f_i0 f_ae0 f_aa0 l at_ n_ = some r) : saysOf Tryz.prog 132 [.v (encL 4 enc_Token l), .v (.int .i64 at_), .v (.int .i64 n_)] [] [] (.ret (.tup [.v (.agg [.int .i64 r.1.Op, .int .i64 r.1.N, .str r.1.S, encL 4 enc_Expr r.1.Args]), .v (.int .i64 r.2.1), .v (.int .i64 r.2.2)]) none) [] := by
 refine sw_ tt_ok Tryz.func132 rfl rfl rfl ?_
 unfold B_aa0 at h
 refine AWp.seq ?_
 refine AWp.rg tt_ok [] (by kernel_rfl) all_nil ?_
 refine AE.tn_ ?_
 refine AWp.seq ?_
 obtain ⟨r1, hr1, h⟩ := bind_some h
 have pr1 := c_af0 n l at_ ([([40] : List UInt8)] : List (List UInt8)) _ hr1
 refine AWp.rg tt_ok [.val (encL 1 e_str ([([40] : List UInt8)] : List (List UInt8))), orn pr1 []] (by kernel_rfl) (all_cons pr1 (all_cons (vimp_litm (k := 1) (e := e_str) ([([40] : List UInt8)] : List (List UInt8))) all_nil)) ?_
 refine AE.tn_ ?_
 refine AWp.seq ?_
 refine AWp.seq ?_
 refine AWp.rg tt_ok [] (by kernel_rfl) all_nil ?_
 refine AE.tn_ ?_
 refine AWp.cnd h (by kernel_rfl) ?_ ?_ <;> clear h <;> intro h
 ·refine AWp.seq ?_
  refine AWp.rg tt_ok [.own] (by kernel_rfl) all_nil ?_
  refine AE.tn_ ?_
  refine AWp.ret ?_
  obtain rfl := Option.some.inj h
  exact AE.tr_ (post_ret (by kernel_rfl))
 ·refine AWp.skip ?_
  refine AE.tn_ ?_
  refine AWp.seq ?_
  obtain ⟨r3, hr3, h⟩ := bind_some h
  have pr3 := i_i0 l r1.1 1 n_ _ hr3
  refine AWp.rg tt_ok [orn pr3 []] (by kernel_rfl) (all_cons pr3 all_nil) ?_
  refine AE.tn_ ?_
  refine AWp.seq ?_
  refine AWp.seq ?_
  refine AWp.rg tt_ok [] (by kernel_rfl) all_nil ?_
  refine AE.tn_ ?_
  refine AWp.cnd h (by kernel_rfl) ?_ ?_ <;> clear h <;> intro h
  ·refine AWp.seq ?_
   refine AWp.rg tt_ok [.own] (by kernel_rfl) all_nil ?_
   refine AE.tn_ ?_
   refine AWp.ret ?_
   obtain rfl := Option.some.inj h
   exact AE.tr_ (post_ret (by kernel_rfl))
  ·refine AWp.skip ?_
   refine AE.tn_ ?_
   refine AWp.seq ?_
   obtain ⟨r5, hr5, h⟩ := bind_some h
   have pr5 := c_af0 n l r3.2.1 ([([41] : List UInt8)] : List (List UInt8)) _ hr5
   refine AWp.rg tt_ok [.val (encL 1 e_str ([([41] : List UInt8)] : List (List UInt8))), orn pr5 []] (by kernel_rfl) (all_cons pr5 (all_cons (vimp_litm (k := 1) (e := e_str) ([([41] : List UInt8)] : List (List UInt8))) all_nil)) ?_
   refine AE.tn_ ?_
   refine AWp.seq ?_
   refine AWp.rg tt_ok [] (by kernel_rfl) all_nil ?_
   refine AE.tn_ ?_
   refine AWp.ret ?_
   obtain rfl := Option.some.inj h
   exact post_ret (by kernel_rfl)
theorem cS_i0 (n : Nat) : (∀ (l : List Token) (at_ : Int) (level : Int) (n_ : Int) (r : Expr × Int × Int), F_i0 n l at_ level n_ = some r → saysOf Tryz.prog 35 [.v (encL 4 enc_Token l), .v (.int .i64 at_), .v (.int .i64 level), .v (.int .i64 n_)] [] [] (.ret (.tup [.v (.agg [.int .i64 r.1.Op, .int .i64 r.1.N, .str r.1.S, encL 4 enc_Expr r.1.Args]), .v (.int .i64 r.2.1), .v (.int .i64 r.2.2)]) none) []) ∧ (∀ (l : List Token) (at_ : Int) (n_ : Int) (r : Expr × Int × Int), F_ae0 n l at_ n_ = some r → saysOf Tryz.prog 81 [.v (encL 4 enc_Token l), .v (.int .i64 at_), .v (.int .i64 n_)] [] [] (.ret (.tup [.v (.agg [.int .i64 r.1.Op, .int .i64 r.1.N, .str r.1.S, encL 4 enc_Expr r.1.Args]), .v (.int .i64 r.2.1), .v (.int .i64 r.2.2)]) none) []) ∧ (∀ (l : List Token) (at_ : Int) (n_ : Int) (r : Expr × Int × Int), F_aa0 n l at_ n_ = some r → saysOf Tryz.prog 132 [.v (encL 4 enc_Token l), .v (.int .i64 at_), .v (.int .i64 n_)] [] [] (.ret (.tup [.v (.agg [.int .i64 r.1.Op, .int .i64 r.1.N, .str r.1.S, encL 4 enc_Expr r.1.Args]), .v (.int .i64 r.2.1), .v (.int .i64 r.2.2)]) none) []) := by
 induction n with
 | zero => exact ⟨fun l at_ level n_ r h => (by have h2 : (none : Option _) = some r := h; cases h2), fun l at_ n_ r h => (by have h2 : (none : Option _) = some r := h; cases h2), fun l at_ n_ r h => (by have h2 : (none : Option _) = some r := h; cases h2)⟩
 | succ m ih => exact ⟨fun l at_ level n_ r h => cB_ref10_expr m (F_i0 m) (F_ae0 m) (F_aa0 m) ih.1 ih.2.1 ih.2.2 l at_ level n_ r h, fun l at_ n_ r h => cB_ref10_unit m (F_i0 m) (F_ae0 m) (F_aa0 m) ih.1 ih.2.1 ih.2.2 l at_ n_ r h, fun l at_ n_ r h => cB_ref10_inside m (F_i0 m) (F_ae0 m) (F_aa0 m) ih.1 ih.2.1 ih.2.2 l at_ n_ r h⟩
theorem c_i0 (n : Nat) (l : List Token) (at_ : Int) (level : Int) (n_ : Int) (r : Expr × Int × Int) (h : F_i0 n l at_ level n_ = some r) : saysOf Tryz.prog 35 [.v (encL 4 enc_Token l), .v (.int .i64 at_), .v (.int .i64 level), .v (.int .i64 n_)] [] [] (.ret (.tup [.v (.agg [.int .i64 r.1.Op, .int .i64 r.1.N, .str r.1.S, encL 4 enc_Expr r.1.Args]), .v (.int .i64 r.2.1), .v (.int .i64 r.2.2)]) none) [] := (cS_i0 n).1 l at_ level n_ r h
theorem c_cz0 (n : Nat) (l : List Token) (at_ : Int) (r : Int) (h : F_cz0 n l at_ = some r) : saysOf Tryz.prog 37 [.v (encL 4 enc_Token l), .v (.int .i64 at_)] [] [] (.ret (.v (.int .i64 r)) none) [] := by
 refine sw_ tt_ok Tryz.func37 rfl rfl rfl ?_
 unfold F_cz0 at h
 refine AWp.seq ?_
 refine AWp.rg tt_ok [] (by kernel_rfl) all_nil ?_
 refine AE.tn_ ?_
 refine AWp.seq ?_
 refine AWp.seq ?_
 refine AWp.rg tt_ok [] (by kernel_rfl) all_nil ?_
 refine AE.tn_ ?_
 refine AWp.cnd h (by kernel_rfl) ?_ ?_ <;> clear h <;> intro h
 ·refine AWp.seq ?_
  refine AWp.rg tt_ok [] (by kernel_rfl) all_nil ?_
  refine AE.tn_ ?_
  refine AWp.ret ?_
  obtain rfl := Option.some.inj h
  exact AE.tr_ (post_ret (by kernel_rfl))
 ·refine AWp.skip ?_
  refine AE.tn_ ?_
  refine AWp.seq ?_
  obtain ⟨g2, h⟩ := ass_some h
  refine AWp.rg tt_ok [.raw] (by kernel_rfl) (all_cons g2 all_nil) ?_
  refine AE.tn_ ?_
  refine AWp.ret ?_
  obtain rfl := Option.some.inj h
  exact post_ret (by kernel_rfl)
theorem cB_ref08_EqualBody (n : Nat) (f_s0 : (List Stmt) → (List Stmt) → Option Bool) (i_s0 : ∀ (a : List Stmt) (b : List Stmt) (r : Bool), f_s0 a b = some r → saysOf Tryz.prog 43 [.v (encL 13 enc_Stmt a), .v (encL 13 enc_Stmt b)] [] [] (.ret (.v (.bool r)) none) []) (a : List Stmt) (b : List Stmt) (r : Bool) (h : B_s0 n f_s0 a b = some r) : saysOf Tryz.prog 43 [.v (encL 13 enc_Stmt a), .v (encL 13 enc_Stmt b)] [] [] (.ret (.v (.bool r)) none) [] := by
 refine sw_ tt_ok Tryz.func43 rfl rfl rfl ?_
 unfold B_s0 at h
 refine AWp.seq ?_
 refine AWp.rg tt_ok [] (by kernel_rfl) all_nil ?_
 refine AE.tn_ ?_
 refine AWp.seq ?_
 refine AWp.seq ?_
 refine AWp.rg tt_ok [] (by kernel_rfl) all_nil ?_
 refine AE.tn_ ?_
 refine AWp.cnd h (by kernel_rfl) ?_ ?_ <;> clear h <;> intro h
 ·refine AWp.seq ?_
  refine AWp.rg tt_ok [] (by kernel_rfl) all_nil ?_
  refine AE.tn_ ?_
  refine AWp.ret ?_
  obtain rfl := Option.some.inj h
  exact AE.tr_ (post_ret (by kernel_rfl))
 ·refine AWp.skip ?_
  refine AE.tn_ ?_
  refine AWp.cut (fun st' => restr [] [] 0 st'.env st'.H st'.nxt = some ⟨[], [], 0⟩ ∧ F_s0_j1 n f_s0 = some r) ?_ ?_
  ·refine AWp.seq ?_
   refine AWp.rg tt_ok [] (by kernel_rfl) all_nil ?_
   refine AE.tn_ ?_
   refine AWp.block ?_
   refine AWp.loop (σ := Int) (fun zm zs zst => restr [0, 1, 5] [] 0 zst.env zst.H zst.nxt = some ⟨[(0, ⟨.v (encL 13 enc_Stmt a), none⟩), (1, ⟨.v (encL 13 enc_Stmt b), none⟩), (5, ⟨.v (.int .i64 zs), none⟩)], [], 0⟩ ∧ F_s0_l2 n f_s0 a b zm zs = some r) ?_ (n := n) (s := 0) ⟨by kernel_rfl, h⟩
   clear h
   rintro m2 v9 st' ⟨hr', h⟩
   cases m2 with
   | zero =>
    have h2 : (none : Option _) = some r := h
    cases h2
   | succ m2 =>
    refine ⟨m2, rfl, AWp.drop _ _ _ hr' (by kernel_rfl) ?_⟩
    clear hr' st'
    replace h : F_s0_b2 n f_s0 a b (F_s0_l2 n f_s0 a b m2) v9 = some r := h
    unfold F_s0_b2 at h
    refine AWp.seq ?_
    refine AWp.seq ?_
    refine AWp.rg tt_ok [] (by kernel_rfl) all_nil ?_
    refine AE.tn_ ?_
    refine AWp.cnd h (by kernel_rfl) ?_ ?_ <;> clear h <;> intro h
    ·refine AWp.skip ?_
     refine AE.tn_ ?_
     refine AWp.seq ?_
     refine AWp.block ?_
     refine AWp.seq ?_
     obtain ⟨g10, h⟩ := ass_some h
     obtain ⟨g11, h⟩ := ass_some h
     refine AWp.rgD tt_ok mo_ok [(2, [orv (enc_vimp_Stmt (a.getD (v9).toNat default))]), (6, [orv (enc_vimp_Stmt (b.getD (v9).toNat default))])] (by kernel_rfl) (all_cons (enc_vimp_Stmt (b.getD (v9).toNat default)) (all_cons g11 (all_cons (enc_vimp_Stmt (a.getD (v9).toNat default)) (all_cons g10 all_nil)))) ?_
     refine AE.tn_ ?_
     refine AWp.seq ?_
     obtain ⟨r12, hr12, h⟩ := bind_some h
     have pr12 := fun c1 => c_r0 n (⟨((a.getD (v9).toNat default).A).Op, ((a.getD (v9).toNat default).A).N, ((a.getD (v9).toNat default).A).S, ((a.getD (v9).toNat default).A).Args⟩ : Expr) (⟨((b.getD (v9).toNat default).A).Op, ((b.getD (v9).toNat default).A).N, ((b.getD (v9).toNat default).A).S, ((b.getD (v9).toNat default).A).Args⟩ : Expr) _ (cond_t (not_t c1) hr12)
     obtain ⟨r13, hr13, h⟩ := bind_some h
     have pr13 := fun c1 => c_r0 n (⟨((a.getD (v9).toNat default).B).Op, ((a.getD (v9).toNat default).B).N, ((a.getD (v9).toNat default).B).S, ((a.getD (v9).toNat default).B).Args⟩ : Expr) (⟨((b.getD (v9).toNat default).B).Op, ((b.getD (v9).toNat default).B).N, ((b.getD (v9).toNat default).B).S, ((b.getD (v9).toNat default).B).Args⟩ : Expr) _ (cond_t (not_t c1) hr13)
     obtain ⟨r14, hr14, h⟩ := bind_some h
     have pr14 := fun c1 => i_s0 ((a.getD (v9).toNat default).Body) ((b.getD (v9).toNat default).Body) _ (cond_t (not_t c1) hr14)
     obtain ⟨r15, hr15, h⟩ := bind_some h
     have pr15 := fun c1 => i_s0 ((a.getD (v9).toNat default).Else) ((b.getD (v9).toNat default).Else) _ (cond_t (not_t c1) hr15)
     refine AWp.rg tt_ok [orn1 pr12, orn1 pr13, orn1 pr14, orn1 pr15] (by kernel_rfl) (all_cons pr15 (all_cons pr14 (all_cons pr13 (all_cons pr12 all_nil)))) ?_
     refine AE.tn_ ?_
     refine AWp.cnd h (by kernel_rfl) ?_ ?_ <;> clear h <;> intro h
     ·refine AWp.seq ?_
      refine AWp.rg tt_ok [] (by kernel_rfl) all_nil ?_
      refine AE.tn_ ?_
      refine AWp.ret ?_
      obtain rfl := Option.some.inj h
      exact AE.br_ (AE.tr_ (AE.tr_ (AE.br_ (AE.tr_ (post_ret (by kernel_rfl))))))
     ·refine AWp.skip ?_
      refine AE.bn_ (AE.tn_ ?_)
      refine AWp.rg tt_ok [] (by kernel_rfl) all_nil ?_
      exact AE.tn_ ⟨(IntKind.i64.wrap (v9 + 1)), by kernel_rfl, h⟩
    ·refine AWp.exit ?_
     exact AE.tx_ (AE.tx_ (AE.block_hit (AE.tn_ ⟨by kernel_rfl, h⟩)))
  ·clear h
   rintro st' ⟨hr', h⟩
   refine AWp.drop _ _ _ hr' (by kernel_rfl) ?_
   clear hr' st'
   unfold F_s0_j1 at h
   refine AWp.seq ?_
   refine AWp.rg tt_ok [] (by kernel_rfl) all_nil ?_
   refine AE.tn_ ?_
   refine AWp.ret ?_
   obtain rfl := Option.some.inj h
   exact post_ret (by kernel_rfl)
theorem c_s0 (n : Nat) : ∀ (a : List Stmt) (b : List Stmt) (r : Bool), F_s0 n a b = some r → saysOf Tryz.prog 43 [.v (encL 13 enc_Stmt a), .v (encL 13 enc_Stmt b)] [] [] (.ret (.v (.bool r)) none) [] := by
 induction n with
 | zero => intro a b r h; have h2 : (none : Option _) = some r := h; cases h2
 | succ m ih => intro a b r h; exact cB_ref08_EqualBody m (F_s0 m) ih a b r h
theorem c_bd0 (n : Nat) (a : Proc) (b : Proc) (r : Bool) (h : F_bd0 n a b = some r) : saysOf Tryz.prog 17 [.v (.agg [.str a.Name, encL 2 enc_Param a.Params, encL 13 enc_Stmt a.Body]), .v (.agg [.str b.Name, encL 2 enc_Param b.Params, encL 13 enc_Stmt b.Body])] [] [] (.ret (.v (.bool r)) none) [] := by
 refine sw_ tt_ok Tryz.func17 rfl rfl rfl ?_
 unfold F_bd0 at h
 refine AWp.seq ?_
 refine AWp.rg tt_ok [] (by kernel_rfl) all_nil ?_
 refine AE.tn_ ?_
 refine AWp.seq ?_
 refine AWp.seq ?_
 refine AWp.rg tt_ok [] (by kernel_rfl) all_nil ?_
 refine AE.tn_ ?_
 refine AWp.cnd h (by kernel_rfl) ?_ ?_ <;> clear h <;> intro h
 ·refine AWp.seq ?_
  refine AWp.rg tt_ok [] (by kernel_rfl) all_nil ?_
  refine AE.tn_ ?_
  refine AWp.ret ?_
  obtain rfl := Option.some.inj h
  exact AE.tr_ (post_ret (by kernel_rfl))
 ·refine AWp.skip ?_
  refine AE.tn_ ?_
  refine AWp.cut (fun st' => restr [2, 3] [0, 1] 2 st'.env st'.H st'.nxt = some ⟨[(2, ⟨.ptr 0 0, none⟩), (3, ⟨.ptr 1 0, none⟩)], [(0, [⟨.v (.str a.Name), none⟩, ⟨.v (encL 2 enc_Param a.Params), none⟩, ⟨.v (encL 13 enc_Stmt a.Body), none⟩]), (1, [⟨.v (.str b.Name), none⟩, ⟨.v (encL 2 enc_Param b.Params), none⟩, ⟨.v (encL 13 enc_Stmt b.Body), none⟩])], 2⟩ ∧ F_bd0_j1 n a b = some r) ?_ ?_
  ·refine AWp.seq ?_
   refine AWp.rg tt_ok [] (by kernel_rfl) all_nil ?_
   refine AE.tn_ ?_
   refine AWp.block ?_
   refine AWp.loop (σ := Int) (fun zm zs zst => restr [2, 3, 5] [0, 1] 2 zst.env zst.H zst.nxt = some ⟨[(2, ⟨.ptr 0 0, none⟩), (3, ⟨.ptr 1 0, none⟩), (5, ⟨.v (.int .i64 zs), none⟩)], [(0, [⟨.v (.str a.Name), none⟩, ⟨.v (encL 2 enc_Param a.Params), none⟩, ⟨.v (encL 13 enc_Stmt a.Body), none⟩]), (1, [⟨.v (.str b.Name), none⟩, ⟨.v (encL 2 enc_Param b.Params), none⟩, ⟨.v (encL 13 enc_Stmt b.Body), none⟩])], 2⟩ ∧ F_bd0_l2 n a b zm zs = some r) ?_ (n := n) (s := 0) ⟨by kernel_rfl, h⟩
   clear h
   rintro m2 v5 st' ⟨hr', h⟩
   cases m2 with
   | zero =>
    have h2 : (none : Option _) = some r := h
    cases h2
   | succ m2 =>
    refine ⟨m2, rfl, AWp.drop _ _ _ hr' (by kernel_rfl) ?_⟩
    clear hr' st'
    replace h : F_bd0_b2 n a b (F_bd0_l2 n a b m2) v5 = some r := h
    unfold F_bd0_b2 at h
    refine AWp.seq ?_
    refine AWp.seq ?_
    refine AWp.rg tt_ok [] (by kernel_rfl) all_nil ?_
    refine AE.tn_ ?_
    refine AWp.cnd h (by kernel_rfl) ?_ ?_ <;> clear h <;> intro h
    ·refine AWp.skip ?_
     refine AE.tn_ ?_
     refine AWp.seq ?_
     refine AWp.block ?_
     refine AWp.seq ?_
     obtain ⟨g6, h⟩ := ass_some h
     obtain ⟨g7, h⟩ := ass_some h
     refine AWp.rgD tt_ok mo_ok [(3, [.raw]), (8, [.raw])] (by kernel_rfl) (all_cons g7 (all_cons g6 all_nil)) ?_
     refine AE.tn_ ?_
     refine AWp.cnd h (by kernel_rfl) ?_ ?_ <;> clear h <;> intro h
     ·refine AWp.seq ?_
      refine AWp.rg tt_ok [] (by kernel_rfl) all_nil ?_
      refine AE.tn_ ?_
      refine AWp.ret ?_
      obtain rfl := Option.some.inj h
      exact AE.br_ (AE.tr_ (AE.tr_ (AE.br_ (AE.tr_ (post_ret (by kernel_rfl))))))
     ·refine AWp.skip ?_
      refine AE.bn_ (AE.tn_ ?_)
      refine AWp.rg tt_ok [] (by kernel_rfl) all_nil ?_
      exact AE.tn_ ⟨(IntKind.i64.wrap (v5 + 1)), by kernel_rfl, h⟩
    ·refine AWp.exit ?_
     exact AE.tx_ (AE.tx_ (AE.block_hit (AE.tn_ ⟨by kernel_rfl, h⟩)))
  ·clear h
   rintro st' ⟨hr', h⟩
   refine AWp.drop _ _ _ hr' (by kernel_rfl) ?_
   clear hr' st'
   unfold F_bd0_j1 at h
   refine AWp.seq ?_
   obtain ⟨r9, hr9, h⟩ := bind_some h
   have pr9 := c_s0 n a.Body b.Body _ hr9
   refine AWp.rg tt_ok [orn pr9 []] (by kernel_rfl) (all_cons pr9 all_nil) ?_
   refine AE.tn_ ?_
   refine AWp.ret ?_
   obtain rfl := Option.some.inj h
   exact post_ret (by kernel_rfl)
theorem c_bx0 (n : Nat) (e : Expr) (r : Bool) (h : F_bx0 n e = some r) : saysOf Tryz.prog 140 [.v (.agg [.int .i64 e.Op, .int .i64 e.N, .str e.S, encL 4 enc_Expr e.Args])] [] [] (.ret (.v (.bool r)) none) [] := by
 refine sw_ tt_ok Tryz.func140 rfl rfl rfl ?_
 unfold F_bx0 at h
 refine AWp.seq ?_
 refine AWp.rg tt_ok [] (by kernel_rfl) all_nil ?_
 refine AE.tn_ ?_
 refine AWp.seq ?_
 refine AWp.rg tt_ok [] (by kernel_rfl) all_nil ?_
 refine AE.tn_ ?_
 refine AWp.ret ?_
 obtain rfl := Option.some.inj h
 exact post_ret (by kernel_rfl)
end Go.Ab.Y
