/- That Go functions compute their models. Printed by gen2.py. -/
import Derived.Test.YtgacfocekkckfaaGreatDoorWa
set_option linter.unusedVariables false
namespace Go.Proofs.YtgacfocekkckfaaGreatDoor
open _root_.Go.Proofs.Tryz
set_option maxRecDepth 100000
set_option maxHeartbeats 8000000
attribute [local irreducible] wpList wpQuiet Code.wp
variable {g : World} {T0 : Nat → Prop} {w0 : World} {R : List Assn}
attribute [local irreducible] wpSer wpTr execOp Program.underlying sizeOf isAgg zeroValue

theorem ref02_move_sim {p0 p1 p2 p3} (hS : Sep g T0 w0 [starL R])  : ∀ r, ref02_move p0 p1 p2 p3 = some r →
    Calls Tryz.prog 45 #[iv p0, iv p1, iv p2, iv p3] w0 (RetS T0 w0 fun T w v => v = iv r ∧ Sep g T w (R ++ []) ∧ True) := by
  intro r hm
  refine enter Tryz.func45 rfl Tryz.ntmps45 rfl fun J => ?_
  unfold ref02_move at hm
  refine sq2 (pn ?_)
  refine sq2 (pn ?_)
  refine cutJ hm (fun kk1 a w1 => ∃ T1 x1, JR (nf 28) g T0 w0 a w1 T1 (kk1 x1 = some r) [(1, iv p1), (2, iv p2), (3, iv p3), (9, iv x1)] [starL R]) (fun kk1 hm => ?_) ?_
  · refine sq2 (cd hm ?_ ?_) <;> intro hb1 hm
    · exact je hm (hS.sel [0] rfl)
    exact je hm (hS.sel [0] rfl)
  rintro _ w1 ⟨T1, x1, J, hm, rfl, hS1, im1⟩
  refine sq2 (rsS [0, 0, 2, 0, 0, 0, 0, 0, 2, 0, 0, 2, 0, 0] [0, 1, 4, 5, 6, 7, 10, 2, 3, 8, 9, 11, 12, 13] hS1 fun w2 im2 hS2 => ?_)
  obtain ⟨y1, hx1, hm⟩ := bindS hm
  refine sS [] cf72 (ref02_two_sim (hS2.bun [0] [] rfl) _ hx1) ?_
  rintro _ T2 w3 im3 ⟨rfl, hS3, _⟩
  refine pu ?_
  obtain ⟨_, hz1, hm⟩ := bindS hm
  have hz1 := nz_some hz1
  obtain ⟨y2, hx2, hm⟩ := bindS hm
  refine s0 rfl trivial (fun _ => r_iq rfl rfl hz1) rfl (sS [] cf72 (ref02_two_sim (hS3.bun [0] [] rfl) _ hx2) ?_)
  rintro _ T3 w4 im4 ⟨rfl, hS4, _⟩
  refine pu ?_
  obtain ⟨_, hz2, hm⟩ := bindS hm
  have hz2 := nz_some hz2
  obtain ⟨y3, hx3, hm⟩ := bindS hm
  refine s0 rfl trivial (fun _ => r_irm rfl rfl hz2) rfl (sS [] cf72 (ref02_two_sim (hS4.bun [0] [] rfl) _ hx3) ?_)
  rintro _ T4 w5 im5 ⟨rfl, hS5, _⟩
  exact re hm (hS5.sel [0] rfl)

theorem ref02_signed_sim {p0 p1} (hS : Sep g T0 w0 [starL R])  : ∀ r, ref02_signed p0 p1 = some r →
    Calls Tryz.prog 71 #[iv p0, iv p1] w0 (RetS T0 w0 fun T w v => v = iv r ∧ Sep g T w (R ++ []) ∧ True) := by
  intro r hm
  refine enter Tryz.func71 rfl Tryz.ntmps71 rfl fun J => ?_
  unfold ref02_signed at hm
  refine sq2 (pn ?_)
  refine sq2 (sq2 (pu ?_))
  refine cB cf72 hm (ref02_two_sim (hS.bun [0] [] rfl)) ?_
  rintro y1 _ T1 w1 im1 ⟨rfl, hS1, _⟩ hm
  refine cd hm ?_ ?_ <;> intro hb1 hm
  · refine sq2 (pu ?_)
    refine cB cf72 hm (ref02_two_sim (hS1.bun [0] [] rfl)) ?_
    rintro y2 _ T2 w2 im2 ⟨rfl, hS2, _⟩ hm
    exact re hm (hS2.sel [0] rfl)
  refine pn ?_
  exact sq2 (re hm (hS1.sel [0] rfl))

theorem ref02_Gather_sim {p0 p1} (hS : Sep g T0 w0 [starL R])  : ∀ r, ref02_Gather p0 p1 = some r →
    Calls Tryz.prog 43 #[.int .u8 p0, iv p1] w0 (RetS T0 w0 fun T w v => v = iv r ∧ Sep g T w (R ++ []) ∧ True) := by
  intro r hm
  refine enter Tryz.func43 rfl Tryz.ntmps43 rfl fun J => ?_
  unfold ref02_Gather at hm
  refine sq2 (pn ?_)
  refine sq2 (sq2 (cd hm ?_ ?_)) <;> intro hb1 hm
  · refine sq2 (pu ?_)
    refine cB cf45 hm (ref02_move_sim (hS.bun [0] [] rfl)) ?_
    rintro y1 _ T1 w1 im1 ⟨rfl, hS1, _⟩ hm
    refine cB cf71 hm (ref02_signed_sim (hS1.bun [0] [] rfl)) ?_
    rintro y2 _ T2 w2 im2 ⟨rfl, hS2, _⟩ hm
    exact re hm (hS2.sel [0] rfl)
  refine pn ?_
  refine sq2 (sq2 (cd hm ?_ ?_)) <;> intro hb2 hm
  · refine sq2 (pu ?_)
    refine cB cf45 hm (ref02_move_sim (hS.bun [0] [] rfl)) ?_
    rintro y3 _ T3 w3 im3 ⟨rfl, hS3, _⟩ hm
    refine pu ?_
    refine cB cf45 hm (ref02_move_sim (hS3.bun [0] [] rfl)) ?_
    rintro y4 _ T4 w4 im4 ⟨rfl, hS4, _⟩ hm
    refine pu ?_
    refine cB cf45 hm (ref02_move_sim (hS4.bun [0] [] rfl)) ?_
    rintro y5 _ T5 w5 im5 ⟨rfl, hS5, _⟩ hm
    refine pu ?_
    refine cB cf45 hm (ref02_move_sim (hS5.bun [0] [] rfl)) ?_
    rintro y6 _ T6 w6 im6 ⟨rfl, hS6, _⟩ hm
    refine pu ?_
    refine cB cf71 hm (ref02_signed_sim (hS6.bun [0] [] rfl)) ?_
    rintro y7 _ T7 w7 im7 ⟨rfl, hS7, _⟩ hm
    exact re hm (hS7.sel [0] rfl)
  refine pn ?_
  refine sq2 (sq2 (cd hm ?_ ?_)) <;> intro hb3 hm
  · refine sq2 (pu ?_)
    refine cB cf45 hm (ref02_move_sim (hS.bun [0] [] rfl)) ?_
    rintro y8 _ T8 w8 im8 ⟨rfl, hS8, _⟩ hm
    refine cB cf71 hm (ref02_signed_sim (hS8.bun [0] [] rfl)) ?_
    rintro y9 _ T9 w9 im9 ⟨rfl, hS9, _⟩ hm
    exact re hm (hS9.sel [0] rfl)
  refine pn ?_
  refine sq2 (sq2 (cd hm ?_ ?_)) <;> intro hb4 hm
  · refine sq2 (pu ?_)
    refine cB cf45 hm (ref02_move_sim (hS.bun [0] [] rfl)) ?_
    rintro y10 _ T10 w10 im10 ⟨rfl, hS10, _⟩ hm
    exact re hm (hS10.sel [0] rfl)
  refine pn ?_
  refine sq2 (sq2 (cd hm ?_ ?_)) <;> intro hb5 hm
  · refine sq2 (pu ?_)
    refine cB cf45 hm (ref02_move_sim (hS.bun [0] [] rfl)) ?_
    rintro y11 _ T11 w11 im11 ⟨rfl, hS11, _⟩ hm
    refine pu ?_
    refine cB cf45 hm (ref02_move_sim (hS11.bun [0] [] rfl)) ?_
    rintro y12 _ T12 w12 im12 ⟨rfl, hS12, _⟩ hm
    refine pu ?_
    refine cB cf71 hm (ref02_signed_sim (hS12.bun [0] [] rfl)) ?_
    rintro y13 _ T13 w13 im13 ⟨rfl, hS13, _⟩ hm
    exact re hm (hS13.sel [0] rfl)
  refine pn ?_
  refine sq2 (sq2 (cd hm ?_ ?_)) <;> intro hb6 hm
  · refine sq2 (pu ?_)
    refine cB cf45 hm (ref02_move_sim (hS.bun [0] [] rfl)) ?_
    rintro y14 _ T14 w14 im14 ⟨rfl, hS14, _⟩ hm
    refine pu ?_
    refine cB cf45 hm (ref02_move_sim (hS14.bun [0] [] rfl)) ?_
    rintro y15 _ T15 w15 im15 ⟨rfl, hS15, _⟩ hm
    refine pu ?_
    refine cB cf45 hm (ref02_move_sim (hS15.bun [0] [] rfl)) ?_
    rintro y16 _ T16 w16 im16 ⟨rfl, hS16, _⟩ hm
    refine pu ?_
    refine cB cf45 hm (ref02_move_sim (hS16.bun [0] [] rfl)) ?_
    rintro y17 _ T17 w17 im17 ⟨rfl, hS17, _⟩ hm
    refine pu ?_
    refine cB cf71 hm (ref02_signed_sim (hS17.bun [0] [] rfl)) ?_
    rintro y18 _ T18 w18 im18 ⟨rfl, hS18, _⟩ hm
    refine pu ?_
    refine nil (t_thenR [(4, iv y18)] ⟨rfl, trivial⟩ fun J => ?_)
    exact re hm (hS18.sel [0] rfl)
  refine pn ?_
  exact sq2 (re hm (hS.sel [0] rfl))

theorem ref02_has_sim {p0 p1} (hS : Sep g T0 w0 [starL R])  : ∀ r, ref02_has p0 p1 = some r →
    Calls Tryz.prog 44 #[.int .u8 p0, iv p1] w0 (RetS T0 w0 fun T w v => v = .bool r ∧ Sep g T w (R ++ []) ∧ True) := by
  intro r hm
  refine enter Tryz.func44 rfl Tryz.ntmps44 rfl fun J => ?_
  unfold ref02_has at hm
  refine sq2 (pn ?_)
  refine sq2 (sq2 (cd hm ?_ ?_)) <;> intro hb1 hm
  · refine sq2 (pu ?_)
    rcases bc hm with ⟨hb2, hm⟩ | ⟨hb2, hm⟩
    · exact re hm (hS.sel [0] rfl)
    exact re hm (hS.sel [0] rfl)
  refine pn ?_
  refine sq2 (sq2 (cd hm ?_ ?_)) <;> intro hb3 hm
  · refine sq2 (pu ?_)
    rcases bc hm with ⟨hb4, hm⟩ | ⟨hb4, hm⟩
    · exact re hm (hS.sel [0] rfl)
    exact re hm (hS.sel [0] rfl)
  refine pn ?_
  refine sq2 (pu ?_)
  rcases bc hm with ⟨hb5, hm⟩ | ⟨hb5, hm⟩
  · exact re hm (hS.sel [0] rfl)
  refine pu ?_
  rcases bc hm with ⟨hb6, hm⟩ | ⟨hb6, hm⟩
  · exact re hm (hS.sel [0] rfl)
  exact re hm (hS.sel [0] rfl)

theorem ref02_reg_sim {p0 p1} (hS : Sep g T0 w0 [starL R])  : ∀ r, ref02_reg p0 p1 = some r →
    Calls Tryz.prog 73 #[iv p0, .bool p1] w0 (RetS T0 w0 fun T w v => v = .bool r ∧ Sep g T w (R ++ []) ∧ True) := by
  intro r hm
  refine enter Tryz.func73 rfl Tryz.ntmps73 rfl fun J => ?_
  unfold ref02_reg at hm
  refine sq2 (pn ?_)
  refine sq2 (sq2 (cd hm ?_ ?_)) <;> intro hb1 hm
  · exact sq2 (re hm (hS.sel [0] rfl))
  refine pn ?_
  refine sq2 (pu ?_)
  rcases bc hm with ⟨hb2, hm⟩ | ⟨hb2, hm⟩
  · exact re hm (hS.sel [0] rfl)
  exact re hm (hS.sel [0] rfl)

theorem ref02_room_sim {p0 p1} (hS : Sep g T0 w0 [starL R])  : ∀ r, ref02_room p0 p1 = some r →
    Calls Tryz.prog 74 #[.int .u8 p0, iv p1] w0 (RetS T0 w0 fun T w v => v = .bool r ∧ Sep g T w (R ++ []) ∧ True) := by
  intro r hm
  refine enter Tryz.func74 rfl Tryz.ntmps74 rfl fun J => ?_
  unfold ref02_room at hm
  refine sq2 (pn ?_)
  refine sq2 (sq2 (cd hm ?_ ?_)) <;> intro hb1 hm
  · refine sq2 (pu ?_)
    rcases bc hm with ⟨hb2, hm⟩ | ⟨hb2, hm⟩
    · refine pu ?_
      rcases bc hm with ⟨hb3, hm⟩ | ⟨hb3, hm⟩
      · exact re hm (hS.sel [0] rfl)
      exact re hm (hS.sel [0] rfl)
    exact re hm (hS.sel [0] rfl)
  refine pn ?_
  refine sq2 (sq2 (cd hm ?_ ?_)) <;> intro hb4 hm
  · refine sq2 (pu ?_)
    rcases bc hm with ⟨hb5, hm⟩ | ⟨hb5, hm⟩
    · refine pu ?_
      rcases bc hm with ⟨hb6, hm⟩ | ⟨hb6, hm⟩
      · exact re hm (hS.sel [0] rfl)
      exact re hm (hS.sel [0] rfl)
    exact re hm (hS.sel [0] rfl)
  refine pn ?_
  refine sq2 (sq2 (pu ?_))
  rcases bc hm with ⟨hb7, hm⟩ | ⟨hb7, hm⟩
  · refine pn ?_
    refine cnd (b := true) rfl (fun _ => ?_) (fun h => nomatch h)
    refine sq2 (pu ?_)
    rcases bc hm with ⟨hb16, hm⟩ | ⟨hb16, hm⟩
    · exact re hm (hS.sel [0] rfl)
    exact re hm (hS.sel [0] rfl)
  refine cd hm ?_ ?_ <;> intro hb8 hm
  · refine sq2 (pu ?_)
    rcases bc hm with ⟨hb9, hm⟩ | ⟨hb9, hm⟩
    · exact re hm (hS.sel [0] rfl)
    exact re hm (hS.sel [0] rfl)
  refine pn ?_
  refine sq2 (sq2 (cd hm ?_ ?_)) <;> intro hb10 hm
  · refine sq2 (pu ?_)
    rcases bc hm with ⟨hb11, hm⟩ | ⟨hb11, hm⟩
    · exact re hm (hS.sel [0] rfl)
    exact re hm (hS.sel [0] rfl)
  refine pn ?_
  refine sq2 (sq2 (cd hm ?_ ?_)) <;> intro hb12 hm
  · refine sq2 (pu ?_)
    rcases bc hm with ⟨hb13, hm⟩ | ⟨hb13, hm⟩
    · refine pu ?_
      rcases bc hm with ⟨hb14, hm⟩ | ⟨hb14, hm⟩
      · refine pu ?_
        refine nil (t_thenR [(4, .bool ((Int.tmod p1 2) == 0))] ⟨rfl, trivial⟩ fun J => ?_)
        exact re hm (hS.sel [0] rfl)
      refine pu ?_
      refine nil (t_thenR [(4, .bool false)] ⟨rfl, trivial⟩ fun J => ?_)
      exact re hm (hS.sel [0] rfl)
    refine pu ?_
    refine nil (t_thenR [(4, .bool false)] ⟨rfl, trivial⟩ fun J => ?_)
    exact re hm (hS.sel [0] rfl)
  refine pn ?_
  exact sq2 (re hm (hS.sel [0] rfl))

theorem ref02_Right_sim {p0 : GInst} (hS : Sep g T0 w0 [starL R])  : ∀ r, ref02_Right p0 = some r →
    Calls Tryz.prog 46 #[.agg (cGInst p0).toArray] w0 (RetS T0 w0 fun T w v => v = .bool r ∧ Sep g T w (R ++ []) ∧ True) := by
  intro r hm
  refine enter Tryz.func46 rfl Tryz.ntmps46 rfl fun J => ?_
  unfold ref02_Right at hm
  refine sq2 (bX (cGInst p0) hS ?_)
  intro w1 b1 im1 hS1
  refine pn ?_
  refine sq2 (pu ?_)
  refine cB cf42 hm (ref02_Form_sim (hS1.bun [0, 1] [] rfl)) ?_
  rintro y1 _ T1 w2 im2 ⟨rfl, hS2, _⟩ hm
  refine pn ?_
  refine sq2 (rsS [0, 0, 0, 0, 1, 0, 2, 2, 0, 0, 0, 1, 0, 2, 2, 0, 0, 0, 1, 0, 2, 2, 0, 0, 0, 0, 1, 2, 0, 0] [0, 1, 2, 3, 4, 5, 6, 7, 8, 9, 10, 11, 12, 13, 14, 15, 16, 17, 18, 19, 20, 21, 22, 23, 24, 25, 26, 27, 28, 29] hS2 fun w3 im3 hS3 => ?_)
  refine pu ?_
  rcases bc hm with ⟨hb1, hm⟩ | ⟨hb1, hm⟩
  · obtain ⟨y2, hx2, hm⟩ := bindS hm
    refine sS [(4, iv p0.Rd)] cf44 (ref02_has_sim (hS3.bun [0, 1] [] rfl) _ hx2) ?_
    rintro _ T2 w4 im4 ⟨rfl, hS4, _⟩
    refine pu ?_
    obtain ⟨y3, hx3, hm⟩ := bindS hm
    refine sS [] cf73 (ref02_reg_sim (hS4.bun [0, 1] [] rfl) _ hx3) ?_
    rintro _ T3 w5 im5 ⟨rfl, hS5, _⟩
    refine pu ?_
    rcases bc hm with ⟨hb2, hm⟩ | ⟨hb2, hm⟩
    · obtain ⟨y4, hx4, hm⟩ := bindS hm
      refine sS [(11, iv p0.Rs1)] cf44 (ref02_has_sim (hS5.bun [0, 1] [] rfl) _ hx4) ?_
      rintro _ T4 w6 im6 ⟨rfl, hS6, _⟩
      refine pu ?_
      obtain ⟨y5, hx5, hm⟩ := bindS hm
      refine sS [] cf73 (ref02_reg_sim (hS6.bun [0, 1] [] rfl) _ hx5) ?_
      rintro _ T5 w7 im7 ⟨rfl, hS7, _⟩
      refine pu ?_
      rcases bc hm with ⟨hb3, hm⟩ | ⟨hb3, hm⟩
      · obtain ⟨y6, hx6, hm⟩ := bindS hm
        refine sS [(18, iv p0.Rs2)] cf44 (ref02_has_sim (hS7.bun [0, 1] [] rfl) _ hx6) ?_
        rintro _ T6 w8 im8 ⟨rfl, hS8, _⟩
        refine pu ?_
        obtain ⟨y7, hx7, hm⟩ := bindS hm
        refine sS [] cf73 (ref02_reg_sim (hS8.bun [0, 1] [] rfl) _ hx7) ?_
        rintro _ T7 w9 im9 ⟨rfl, hS9, _⟩
        refine pu ?_
        rcases bc hm with ⟨hb4, hm⟩ | ⟨hb4, hm⟩
        · obtain ⟨y8, hx8, hm⟩ := bindS hm
          refine sS [] cf74 (ref02_room_sim (hS9.bun [1, 0] [] rfl) _ hx8) ?_
          rintro _ T8 w10 im10 ⟨rfl, hS10, _⟩
          refine pu ?_
          refine se (t_thenR [(2, .bool y8)] ⟨rfl, trivial⟩ fun J => ?_)
          exact re hm (hS10.sel [0] rfl)
        refine pu ?_
        refine se (t_thenR [(2, .bool false)] ⟨rfl, trivial⟩ fun J => ?_)
        exact re hm (hS9.sel [1] rfl)
      refine pu ?_
      refine se (t_thenR [(2, .bool false)] ⟨rfl, trivial⟩ fun J => ?_)
      exact re hm (hS7.sel [1] rfl)
    refine pu ?_
    refine se (t_thenR [(2, .bool false)] ⟨rfl, trivial⟩ fun J => ?_)
    exact re hm (hS5.sel [1] rfl)
  refine pu ?_
  refine se (t_thenR [(2, .bool false)] ⟨rfl, trivial⟩ fun J => ?_)
  exact re hm (hS3.sel [1] rfl)

theorem ref02_Code_sim {p0} (hS : Sep g T0 w0 [starL R])  : ∀ r, ref02_Code p0 = some r →
    Calls Tryz.prog 75 #[iv p0] w0 (RetS T0 w0 fun T w v => v = iv r ∧ Sep g T w (R ++ []) ∧ True) := by
  intro r hm
  refine enter Tryz.func75 rfl Tryz.ntmps75 rfl fun J => ?_
  unfold ref02_Code at hm
  refine sq2 (pn ?_)
  refine sq2 (sq2 (cd hm ?_ ?_)) <;> intro hb1 hm
  · exact sq2 (re hm (hS.sel [0] rfl))
  refine pn ?_
  refine sq2 (sq2 (cd hm ?_ ?_)) <;> intro hb2 hm
  · exact sq2 (re hm (hS.sel [0] rfl))
  refine pn ?_
  refine sq2 (sq2 (cd hm ?_ ?_)) <;> intro hb3 hm
  · exact sq2 (re hm (hS.sel [0] rfl))
  refine pn ?_
  refine sq2 (sq2 (cd hm ?_ ?_)) <;> intro hb4 hm
  · exact sq2 (re hm (hS.sel [0] rfl))
  refine pn ?_
  refine sq2 (sq2 (cd hm ?_ ?_)) <;> intro hb5 hm
  · exact sq2 (re hm (hS.sel [0] rfl))
  refine pn ?_
  refine sq2 (sq2 (cd hm ?_ ?_)) <;> intro hb6 hm
  · exact sq2 (re hm (hS.sel [0] rfl))
  refine pn ?_
  refine sq2 (sq2 (cd hm ?_ ?_)) <;> intro hb7 hm
  · exact sq2 (re hm (hS.sel [0] rfl))
  refine pn ?_
  refine sq2 (sq2 (cd hm ?_ ?_)) <;> intro hb8 hm
  · exact sq2 (re hm (hS.sel [0] rfl))
  refine pn ?_
  exact sq2 (re hm (hS.sel [0] rfl))

theorem ref02_Third_sim {p0} (hS : Sep g T0 w0 [starL R])  : ∀ r, ref02_Third p0 = some r →
    Calls Tryz.prog 76 #[iv p0] w0 (RetS T0 w0 fun T w v => v = iv r ∧ Sep g T w (R ++ []) ∧ True) := by
  intro r hm
  refine enter Tryz.func76 rfl Tryz.ntmps76 rfl fun J => ?_
  unfold ref02_Third at hm
  refine sq2 (pn ?_)
  refine sq2 (bS (r := (rInt .i64)) (l := ([0, 0, 0, 0, 0, 0, 1, 4, 5, 6, 7, 0, 1, 2, 4, 5, 0, 1, 2, 0, 2, 3, 4, 6, 7, 1, 5, 5, 0, 0, 1, 2, 3, 4, 5, 5, 6, 7, 0, 1, 2, 3, 4, 5, 6, 7] : List Int)) (css := [[iv 0], [iv 0], [iv 0], [iv 0], [iv 0], [iv 0], [iv 1], [iv 4], [iv 5], [iv 6], [iv 7], [iv 0], [iv 1], [iv 2], [iv 4], [iv 5], [iv 0], [iv 1], [iv 2], [iv 0], [iv 2], [iv 3], [iv 4], [iv 6], [iv 7], [iv 1], [iv 5], [iv 5], [iv 0], [iv 0], [iv 1], [iv 2], [iv 3], [iv 4], [iv 5], [iv 5], [iv 6], [iv 7], [iv 0], [iv 1], [iv 2], [iv 3], [iv 4], [iv 5], [iv 6], [iv 7]]) hS ⟨rfl, rfl, rfl, rfl, rfl, rfl, rfl, rfl, rfl, rfl, rfl, rfl, rfl, rfl, rfl, rfl, rfl, rfl, rfl, rfl, rfl, rfl, rfl, rfl, rfl, rfl, rfl, rfl, rfl, rfl, rfl, rfl, rfl, rfl, rfl, rfl, rfl, rfl, rfl, rfl, rfl, rfl, rfl, rfl, rfl, rfl, trivial⟩ ?_)
  intro w1 a1 n1 c1 im1 hS1
  refine pn ?_
  refine sq2 ?_
  obtain ⟨u1, hx1, hm⟩ := bindS hm
  exact re hm (hS1.sel [1] rfl)

theorem ref02_Seventh_sim {p0} (hS : Sep g T0 w0 [starL R])  : ∀ r, ref02_Seventh p0 = some r →
    Calls Tryz.prog 77 #[iv p0] w0 (RetS T0 w0 fun T w v => v = iv r ∧ Sep g T w (R ++ []) ∧ True) := by
  intro r hm
  refine enter Tryz.func77 rfl Tryz.ntmps77 rfl fun J => ?_
  unfold ref02_Seventh at hm
  refine sq2 (pn ?_)
  refine sq2 (sq2 (pu ?_))
  rcases bc hm with ⟨hb1, hm⟩ | ⟨hb1, hm⟩
  · refine pn ?_
    refine cnd (b := true) rfl (fun _ => ?_) (fun h => nomatch h)
    exact sq2 (re hm (hS.sel [0] rfl))
  refine pu ?_
  rcases bc hm with ⟨hb2, hm⟩ | ⟨hb2, hm⟩
  · refine pn ?_
    refine cnd (b := true) rfl (fun _ => ?_) (fun h => nomatch h)
    exact sq2 (re hm (hS.sel [0] rfl))
  refine cd hm ?_ ?_ <;> intro hb3 hm
  · exact sq2 (re hm (hS.sel [0] rfl))
  refine pn ?_
  refine sq2 (sq2 (cd hm ?_ ?_)) <;> intro hb4 hm
  · exact sq2 (re hm (hS.sel [0] rfl))
  refine pn ?_
  exact sq2 (re hm (hS.sel [0] rfl))

theorem ref02_Spread_sim {p0 p1} (hS : Sep g T0 w0 [starL R])  : ∀ r, ref02_Spread p0 p1 = some r →
    Calls Tryz.prog 78 #[.int .u8 p0, iv p1] w0 (RetS T0 w0 fun T w v => v = iv r ∧ Sep g T w (R ++ []) ∧ True) := by
  intro r hm
  refine enter Tryz.func78 rfl Tryz.ntmps78 rfl fun J => ?_
  unfold ref02_Spread at hm
  refine sq2 (pn ?_)
  refine sq2 (sq2 (cd hm ?_ ?_)) <;> intro hb1 hm
  · refine sq2 (pu ?_)
    refine cB cf45 hm (ref02_move_sim (hS.bun [0] [] rfl)) ?_
    rintro y1 _ T1 w1 im1 ⟨rfl, hS1, _⟩ hm
    exact re hm (hS1.sel [0] rfl)
  refine pn ?_
  refine sq2 (sq2 (cd hm ?_ ?_)) <;> intro hb2 hm
  · refine sq2 (pu ?_)
    refine cB cf45 hm (ref02_move_sim (hS.bun [0] [] rfl)) ?_
    rintro y2 _ T2 w2 im2 ⟨rfl, hS2, _⟩ hm
    refine pu ?_
    refine cB cf45 hm (ref02_move_sim (hS2.bun [0] [] rfl)) ?_
    rintro y3 _ T3 w3 im3 ⟨rfl, hS3, _⟩ hm
    refine pu ?_
    refine cB cf45 hm (ref02_move_sim (hS3.bun [0] [] rfl)) ?_
    rintro y4 _ T4 w4 im4 ⟨rfl, hS4, _⟩ hm
    refine pu ?_
    refine cB cf45 hm (ref02_move_sim (hS4.bun [0] [] rfl)) ?_
    rintro y5 _ T5 w5 im5 ⟨rfl, hS5, _⟩ hm
    exact re hm (hS5.sel [0] rfl)
  refine pn ?_
  refine sq2 (sq2 (cd hm ?_ ?_)) <;> intro hb3 hm
  · refine sq2 (pu ?_)
    refine cB cf45 hm (ref02_move_sim (hS.bun [0] [] rfl)) ?_
    rintro y6 _ T6 w6 im6 ⟨rfl, hS6, _⟩ hm
    exact re hm (hS6.sel [0] rfl)
  refine pn ?_
  refine sq2 (sq2 (cd hm ?_ ?_)) <;> intro hb4 hm
  · refine sq2 (pu ?_)
    refine cB cf45 hm (ref02_move_sim (hS.bun [0] [] rfl)) ?_
    rintro y7 _ T7 w7 im7 ⟨rfl, hS7, _⟩ hm
    exact re hm (hS7.sel [0] rfl)
  refine pn ?_
  refine sq2 (sq2 (cd hm ?_ ?_)) <;> intro hb5 hm
  · refine sq2 (pu ?_)
    refine cB cf45 hm (ref02_move_sim (hS.bun [0] [] rfl)) ?_
    rintro y8 _ T8 w8 im8 ⟨rfl, hS8, _⟩ hm
    refine pu ?_
    refine cB cf45 hm (ref02_move_sim (hS8.bun [0] [] rfl)) ?_
    rintro y9 _ T9 w9 im9 ⟨rfl, hS9, _⟩ hm
    exact re hm (hS9.sel [0] rfl)
  refine pn ?_
  refine sq2 (sq2 (cd hm ?_ ?_)) <;> intro hb6 hm
  · refine sq2 (pu ?_)
    refine cB cf45 hm (ref02_move_sim (hS.bun [0] [] rfl)) ?_
    rintro y10 _ T10 w10 im10 ⟨rfl, hS10, _⟩ hm
    refine pu ?_
    refine cB cf45 hm (ref02_move_sim (hS10.bun [0] [] rfl)) ?_
    rintro y11 _ T11 w11 im11 ⟨rfl, hS11, _⟩ hm
    refine pu ?_
    refine cB cf45 hm (ref02_move_sim (hS11.bun [0] [] rfl)) ?_
    rintro y12 _ T12 w12 im12 ⟨rfl, hS12, _⟩ hm
    refine pu ?_
    refine cB cf45 hm (ref02_move_sim (hS12.bun [0] [] rfl)) ?_
    rintro y13 _ T13 w13 im13 ⟨rfl, hS13, _⟩ hm
    refine pu ?_
    refine nil (t_thenR [(4, iv (IntKind.wrap .i64 ((IntKind.wrap .i64 ((IntKind.wrap .i64 (y10 + y11)) + y12)) + y13)))] ⟨rfl, trivial⟩ fun J => ?_)
    exact re hm (hS13.sel [0] rfl)
  refine pn ?_
  exact sq2 (re hm (hS.sel [0] rfl))

theorem ref02_Word_sim {p0 : GInst} (hS : Sep g T0 w0 [starL R])  : ∀ r, ref02_Word p0 = some r →
    Calls Tryz.prog 47 #[.agg (cGInst p0).toArray] w0 (RetS T0 w0 fun T w v => v = .int .u32 r ∧ Sep g T w (R ++ []) ∧ True) := by
  intro r hm
  refine enter Tryz.func47 rfl Tryz.ntmps47 rfl fun J => ?_
  unfold ref02_Word at hm
  refine sq2 (bX (cGInst p0) hS ?_)
  intro w1 b1 im1 hS1
  refine pn ?_
  refine sq2 (pu ?_)
  refine cB cf42 hm (ref02_Form_sim (hS1.bun [0, 1] [] rfl)) ?_
  rintro y1 _ T1 w2 im2 ⟨rfl, hS2, _⟩ hm
  refine pn ?_
  refine sq2 (rsS [0, 1, 2, 0, 1, 2, 0, 0, 0, 1, 2, 2, 0, 0, 0, 1, 2, 0, 0, 0, 1, 2, 0, 0, 0, 1, 2, 2, 0, 0, 0, 0, 1, 2, 0, 0, 0] [0, 1, 3, 4, 8, 9, 14, 15, 19, 20, 24, 25, 30, 31, 32, 2, 5, 6, 7, 10, 11, 12, 13, 16, 17, 18, 21, 22, 23, 26, 27, 28, 29, 33, 34, 35, 36] hS2 fun w3 im3 hS3 => ?_)
  obtain ⟨y2, hx2, hm⟩ := bindS hm
  refine sS [(32, iv p0.Imm), (25, iv p0.Op), (20, iv p0.Rs2), (15, iv p0.Rs1), (9, iv p0.Op), (4, iv p0.Rd)] cf75 (ref02_Code_sim (hS3.bun [1, 0] [] rfl) _ hx2) ?_
  rintro _ T2 w4 im4 ⟨rfl, hS4, _⟩
  refine pu ?_
  obtain ⟨y3, hx3, hm⟩ := bindS hm
  refine sS [(32, iv p0.Imm), (25, iv p0.Op), (20, iv p0.Rs2), (15, iv p0.Rs1), (9, iv p0.Op), (4, iv p0.Rd)] cf72 (ref02_two_sim (hS4.bun [0, 1] [] rfl) _ hx3) ?_
  rintro _ T3 w5 im5 ⟨rfl, hS5, _⟩
  refine pu ?_
  obtain ⟨y4, hx4, hm⟩ := bindS hm
  refine sS [(32, iv p0.Imm), (25, iv p0.Op), (20, iv p0.Rs2), (15, iv p0.Rs1), (4, iv p0.Rd)] cf76 (ref02_Third_sim (hS5.bun [0, 1] [] rfl) _ hx4) ?_
  rintro _ T4 w6 im6 ⟨rfl, hS6, _⟩
  refine pu ?_
  obtain ⟨y5, hx5, hm⟩ := bindS hm
  refine sS [(32, iv p0.Imm), (25, iv p0.Op), (20, iv p0.Rs2), (15, iv p0.Rs1), (4, iv p0.Rd)] cf72 (ref02_two_sim (hS6.bun [0, 1] [] rfl) _ hx5) ?_
  rintro _ T5 w7 im7 ⟨rfl, hS7, _⟩
  refine pu ?_
  obtain ⟨y6, hx6, hm⟩ := bindS hm
  refine sS [(32, iv p0.Imm), (25, iv p0.Op), (20, iv p0.Rs2), (15, iv p0.Rs1), (4, iv p0.Rd)] cf72 (ref02_two_sim (hS7.bun [0, 1] [] rfl) _ hx6) ?_
  rintro _ T6 w8 im8 ⟨rfl, hS8, _⟩
  refine pu ?_
  obtain ⟨y7, hx7, hm⟩ := bindS hm
  refine sS [(32, iv p0.Imm), (25, iv p0.Op), (20, iv p0.Rs2), (15, iv p0.Rs1), (4, iv p0.Rd)] cf72 (ref02_two_sim (hS8.bun [0, 1] [] rfl) _ hx7) ?_
  rintro _ T7 w9 im9 ⟨rfl, hS9, _⟩
  refine pu ?_
  obtain ⟨y8, hx8, hm⟩ := bindS hm
  refine sS [(32, iv p0.Imm), (20, iv p0.Rs2), (15, iv p0.Rs1), (4, iv p0.Rd)] cf77 (ref02_Seventh_sim (hS9.bun [0, 1] [] rfl) _ hx8) ?_
  rintro _ T8 w10 im10 ⟨rfl, hS10, _⟩
  refine pu ?_
  obtain ⟨y9, hx9, hm⟩ := bindS hm
  refine sS [(32, iv p0.Imm), (20, iv p0.Rs2), (15, iv p0.Rs1), (4, iv p0.Rd)] cf72 (ref02_two_sim (hS10.bun [0, 1] [] rfl) _ hx9) ?_
  rintro _ T9 w11 im11 ⟨rfl, hS11, _⟩
  refine pu ?_
  obtain ⟨y10, hx10, hm⟩ := bindS hm
  refine sS [(20, iv p0.Rs2), (15, iv p0.Rs1), (4, iv p0.Rd)] cf78 (ref02_Spread_sim (hS11.bun [0, 1] [] rfl) _ hx10) ?_
  rintro _ T10 w12 im12 ⟨rfl, hS12, _⟩
  refine pu ?_
  refine se (t_thenR [(2, .int .u32 (IntKind.wrap .u32 (IntKind.wrap .i64 ((IntKind.wrap .i64 ((IntKind.wrap .i64 ((IntKind.wrap .i64 ((IntKind.wrap .i64 ((IntKind.wrap .i64 (y2 + (IntKind.wrap .i64 (p0.Rd * y3)))) + (IntKind.wrap .i64 (y4 * y5)))) + (IntKind.wrap .i64 (p0.Rs1 * y6)))) + (IntKind.wrap .i64 (p0.Rs2 * y7)))) + (IntKind.wrap .i64 (y8 * y9)))) + y10))))] ⟨rfl, trivial⟩ fun J => ?_)
  exact re hm (hS12.sel [0] rfl)

theorem ref02_Decode_sim {p0} (hS : Sep g T0 w0 [starL R])  : ∀ r, ref02_Decode p0 = some r →
    Calls Tryz.prog 30 #[.int .u32 p0] w0 (RetS T0 w0 fun T w v => v = .tuple #[.agg (cGInst r.1).toArray, iv r.2] ∧ Sep g T w (R ++ []) ∧ True) := by
  intro r hm
  refine enter Tryz.func30 rfl Tryz.ntmps30 rfl fun J => ?_
  unfold ref02_Decode at hm
  refine sq2 (aL [iv 0, iv 0, iv 0, iv 0, iv 0] hS ?_)
  intro w1 b1 im1 hS1
  refine pn ?_
  refine sq2 (pn ?_)
  refine sq2 (sq2 (pn ?_))
  refine lpJ hm (fun bd1 o1 m a w2 => ∃ T1 x1, JR (nf 46) g T0 w1 a w2 T1 (loopM bd1 m x1 = some o1) [(0, .int .u32 p0), (2, pt b1 0), (4, iv (IntKind.wrap .i64 p0)), (5, iv x1)] [boxA b1 [iv 0, iv 0, iv 0, iv 0, iv 0], starL R]) (fun _ _ h => je h (hS1.sel [0, 1] rfl)) ?_
  rintro bd1 hbd1 o1 hq1 _ _ w2 ⟨T1, x1, J, ho1, rfl, hS2, im2⟩
  obtain ⟨m1, z1, rfl, hm, hn1⟩ := lrE ho1 hbd1
  refine sq2 (sq2 (cd hm ?_ ?_)) <;> intro hb1 hm
  · refine pn ?_
    refine sq2 (blk (sq2 (pu ?_)))
    refine cB cf42 hm (ref02_Form_sim (hS2.bun [0, 1] [] rfl)) ?_
    rintro y1 _ T2 w3 im3 ⟨rfl, hS3, _⟩ hm
    refine pn ?_
    refine sq2 (pu ?_)
    refine cB cf43 hm (ref02_Gather_sim (hS3.bun [0, 1] [] rfl)) ?_
    rintro y2 _ T3 w4 im4 ⟨rfl, hS4, _⟩ hm
    refine pv (r_bd (by kernel_rfl) rfl (u := .agg #[iv x1, iv 0, iv 0, iv 0, iv y2])) (aL [iv 0, iv 0, iv 0, iv 0, iv 0] hS4 ?_)
    intro w5 b2 im5 hS5
    refine sT 0 hS5 ?_
    intro w6 im6 hS6
    refine pn ?_
    refine cutJ hm (fun kk1 a w7 => ∃ (T4 : _) (x2 : GInst), JR (nf 46) g T3 w6 a w7 T4 (kk1 x2 = some z1) [(0, .int .u32 p0), (2, pt b1 0), (4, iv (IntKind.wrap .i64 p0)), (5, iv x1), (6, .int .u8 y1), (7, pt b2 0)] [boxA b2 (cGInst x2), boxA b1 [iv 0, iv 0, iv 0, iv 0, iv 0], starL R]) (fun kk1 hm => ?_) ?_
    · refine sq2 (pu ?_)
      refine cB cf44 hm (ref02_has_sim (hS6.bun [0, 1, 2] [] rfl)) ?_
      rintro y3 _ T5 w8 im8 ⟨rfl, hS7, _⟩ hm
      refine cd hm ?_ ?_ <;> intro hb2 hm
      · refine pu ?_
        refine cB cf45 hm (ref02_move_sim (hS7.bun [0, 1, 2] [] rfl)) ?_
        rintro y4 _ T6 w9 im9 ⟨rfl, hS8, _⟩ hm
        refine sT 0 hS8 ?_
        intro w10 im10 hS9
        exact je hm (hS9.sel [0, 1, 2] rfl)
      exact je hm (hS7.sel [0, 1, 2] rfl)
    rintro _ w7 ⟨T4, x2, J, hm, rfl, hS10, im7⟩
    refine cutJ hm (fun kk2 a w11 => ∃ (T7 : _) (x3 : GInst), JR (nf 46) g T4 w7 a w11 T7 (kk2 x3 = some z1) [(0, .int .u32 p0), (2, pt b1 0), (4, iv (IntKind.wrap .i64 p0)), (5, iv x1), (6, .int .u8 y1), (7, pt b2 0)] [boxA b2 (cGInst x3), boxA b1 [iv 0, iv 0, iv 0, iv 0, iv 0], starL R]) (fun kk2 hm => ?_) ?_
    · refine sq2 (pu ?_)
      refine cB cf44 hm (ref02_has_sim (hS10.bun [0, 1, 2] [] rfl)) ?_
      rintro y5 _ T8 w12 im12 ⟨rfl, hS11, _⟩ hm
      refine cd hm ?_ ?_ <;> intro hb3 hm
      · refine pu ?_
        refine cB cf45 hm (ref02_move_sim (hS11.bun [0, 1, 2] [] rfl)) ?_
        rintro y6 _ T9 w13 im13 ⟨rfl, hS12, _⟩ hm
        refine sT 0 hS12 ?_
        intro w14 im14 hS13
        exact je hm (hS13.sel [0, 1, 2] rfl)
      exact je hm (hS11.sel [0, 1, 2] rfl)
    rintro _ w11 ⟨T7, x3, J, hm, rfl, hS14, im11⟩
    refine cutJ hm (fun kk3 a w15 => ∃ (T10 : _) (x4 : GInst), JR (nf 46) g T7 w11 a w15 T10 (kk3 x4 = some z1) [(0, .int .u32 p0), (2, pt b1 0), (4, iv (IntKind.wrap .i64 p0)), (5, iv x1), (7, pt b2 0)] [boxA b2 (cGInst x4), boxA b1 [iv 0, iv 0, iv 0, iv 0, iv 0], starL R]) (fun kk3 hm => ?_) ?_
    · refine sq2 (pu ?_)
      refine cB cf44 hm (ref02_has_sim (hS14.bun [0, 1, 2] [] rfl)) ?_
      rintro y7 _ T11 w16 im16 ⟨rfl, hS15, _⟩ hm
      refine cd hm ?_ ?_ <;> intro hb4 hm
      · refine pu ?_
        refine cB cf45 hm (ref02_move_sim (hS15.bun [0, 1, 2] [] rfl)) ?_
        rintro y8 _ T12 w17 im17 ⟨rfl, hS16, _⟩ hm
        refine sT 0 hS16 ?_
        intro w18 im18 hS17
        exact je hm (hS17.sel [0, 1, 2] rfl)
      exact je hm (hS15.sel [0, 1, 2] rfl)
    rintro _ w15 ⟨T10, x4, J, hm, rfl, hS18, im15⟩
    refine sq2 (pu ?_)
    refine cB cf46 hm (ref02_Right_sim (hS18.bun [0, 1, 2] [] rfl)) ?_
    rintro y9 _ T13 w19 im19 ⟨rfl, hS19, _⟩ hm
    refine pu ?_
    rcases bc hm with ⟨hb5, hm⟩ | ⟨hb5, hm⟩
    · refine pu ?_
      refine cB cf47 hm (ref02_Word_sim (hS19.bun [0, 1, 2] [] rfl)) ?_
      rintro y10 _ T14 w20 im20 ⟨rfl, hS20, _⟩ hm
      refine cd hm ?_ ?_ <;> intro hb6 hm
      · refine sq2 (sT 1 hS20 ?_)
        intro w21 im21 hS21
        refine pn ?_
        have hm := retE hm hn1 hq1
        exact re hm (hS21.sel [2] rfl)
      exact lg hm hn1 (hS20.sel [1, 2] rfl)
    refine pn ?_
    refine cnd (b := false) rfl (fun h => nomatch h) (fun _ => ?_)
    exact lg hm hn1 (hS19.sel [1, 2] rfl)
  have hm := brkE hm hn1 hq1
  refine pn ?_
  refine sq2 (pu ?_)
  refine pv (r_bd (by kernel_rfl) rfl (u := .agg #[iv 0, iv 0, iv 0, iv 0, iv 0])) (sT 0 hS2 ?_)
  intro w22 im22 hS22
  exact re hm (hS22.sel [1] rfl)

theorem ref01_Cut_sim {p0} (hS : Sep g T0 w0 [starL R])  : ∀ r, ref01_Cut p0 = some r →
    Calls Tryz.prog 50 #[iv p0] w0 (RetS T0 w0 fun T w v => v = .int .u32 r ∧ Sep g T w (R ++ []) ∧ True) := by
  intro r hm
  refine enter Tryz.func50 rfl Tryz.ntmps50 rfl fun J => ?_
  unfold ref01_Cut at hm
  refine sq2 (pn ?_)
  refine sq2 (pn ?_)
  refine cutJ hm (fun kk1 a w1 => ∃ T1 x1, JR (nf 12) g T0 w0 a w1 T1 (kk1 x1 = some r) [(3, iv x1)] [starL R]) (fun kk1 hm => ?_) ?_
  · refine sq2 (cd hm ?_ ?_) <;> intro hb1 hm
    · exact je hm (hS.sel [0] rfl)
    exact je hm (hS.sel [0] rfl)
  rintro _ w1 ⟨T1, x1, J, hm, rfl, hS1, im1⟩
  exact sq2 (re hm (hS1.sel [0] rfl))

theorem ref03_wrap_sim {p0} (hS : Sep g T0 w0 [starL R])  : ∀ r, ref03_wrap p0 = some r →
    Calls Tryz.prog 48 #[iv p0] w0 (RetS T0 w0 fun T w v => v = iv r ∧ Sep g T w (R ++ []) ∧ True) := by
  intro r hm
  refine enter Tryz.func48 rfl Tryz.ntmps48 rfl fun J => ?_
  unfold ref03_wrap at hm
  refine sq2 (pn ?_)
  refine sq2 (pu ?_)
  refine cB cf50 hm (ref01_Cut_sim (hS.bun [0] [] rfl)) ?_
  rintro y1 _ T1 w1 im1 ⟨rfl, hS1, _⟩ hm
  exact re hm (hS1.sel [0] rfl)

theorem ref03_Machine_set_sim {p0 : ref03Machine} {b_p0 o_p0 : Nat} {H_p0 : List Value → Assn} {a1 c1 a2 n1 c2 a3 c3 a4 n2 c4 a5 n3 c5 p1 p2} (hS : Sep g T0 w0 ([starL R] ++ gref03Machine p0 H_p0 a1 c1 a2 n1 c2 a3 c3 a4 n2 c4 a5 n3 c5)) (hL_p0 : Ln b_p0 o_p0 H_p0) (h1 : SlR (rInt .u32) T0 w0 (sv a1 p0.Code c1) p0.Code) (h2 : SlR (rInt .u32) T0 w0 (sv a3 p0.Inputs c3) p0.Inputs) : ∀ r, ref03_Machine_set p0 p1 p2 = some r →
    Calls Tryz.prog 49 #[pt b_p0 o_p0, iv p1, .int .u32 p2] w0 (RetS T0 w0 fun T w v => ∃ a6 c6 a7 c7, v = .tuple #[] ∧ Sep g T w (R ++ gref03Machine r H_p0 a6 c6 a2 n1 c2 a7 c7 a4 n2 c4 a5 n3 c5) ∧ SlR (rInt .u32) T w (sv a6 r.Code c6) r.Code ∧ SlR (rInt .u32) T w (sv a7 r.Inputs c7) r.Inputs ∧ True) := by
  intro r hm
  refine enter Tryz.func49 rfl Tryz.ntmps49 rfl fun J => ?_
  unfold ref03_Machine_set at hm
  refine sq2 (cd hm ?_ ?_) <;> intro hb1 hm
  · obtain ⟨u1, hx1, hm⟩ := bindS hm
    obtain ⟨u2, hx2, hm⟩ := bindS hm
    obtain rfl : u1 = u2 := oI (hx1.symm.trans hx2)
    refine pu ?_
    refine wl rfl (stOc (q := 3) (j := 0) (u' := p2) hS ⟨rfl, rfl⟩ hx2 rfl rfl rfl sizeOf30 rfl rfl rfl (fun c0 hc0 => by rw [storeL_all (r := (rInt .u32)) hc0 rfl]; exact rfl) fun w1 im1 hS1 => ?_)
    have hm := oI hm; subst hm
    refine pn ?_
    exact end0 rfl ⟨_, rfl, _, im1, ⟨_, _, _, _, rfl, (hS1.sel (nrow 0 5) rfl).unb, (h1.mono im1), (h2.mono im1), trivial⟩⟩
  have hm := oI hm; subst hm
  refine pn ?_
  exact end0 rfl ⟨_, rfl, _, Im.refl, ⟨_, _, _, _, rfl, (hS.sel (nrow 0 5) rfl).unb, h1, h2, trivial⟩⟩

theorem ref01_Signed_sim {p0} (hS : Sep g T0 w0 [starL R])  : ∀ r, ref01_Signed p0 = some r →
    Calls Tryz.prog 79 #[.int .u32 p0] w0 (RetS T0 w0 fun T w v => v = iv r ∧ Sep g T w (R ++ []) ∧ True) := by
  intro r hm
  refine enter Tryz.func79 rfl Tryz.ntmps79 rfl fun J => ?_
  unfold ref01_Signed at hm
  refine sq2 (pn ?_)
  refine sq2 (sq2 (cd hm ?_ ?_)) <;> intro hb1 hm
  · exact sq2 (re hm (hS.sel [0] rfl))
  refine pn ?_
  exact sq2 (re hm (hS.sel [0] rfl))

theorem ref03_taken_sim {p0 p1 p2} (hS : Sep g T0 w0 [starL R])  : ∀ r, ref03_taken p0 p1 p2 = some r →
    Calls Tryz.prog 51 #[iv p0, .int .u32 p1, .int .u32 p2] w0 (RetS T0 w0 fun T w v => v = .bool r ∧ Sep g T w (R ++ []) ∧ True) := by
  intro r hm
  refine enter Tryz.func51 rfl Tryz.ntmps51 rfl fun J => ?_
  unfold ref03_taken at hm
  refine sq2 (pn ?_)
  refine sq2 (pu ?_)
  refine cB cf79 hm (ref01_Signed_sim (hS.bun [0] [] rfl)) ?_
  rintro y1 _ T1 w1 im1 ⟨rfl, hS1, _⟩ hm
  refine pu ?_
  refine cB cf79 hm (ref01_Signed_sim (hS1.bun [0] [] rfl)) ?_
  rintro y2 _ T2 w2 im2 ⟨rfl, hS2, _⟩ hm
  refine pn ?_
  refine sq2 (sq2 (cd hm ?_ ?_)) <;> intro hb1 hm
  · exact sq2 (re hm (hS2.sel [0] rfl))
  refine pn ?_
  refine sq2 (sq2 (cd hm ?_ ?_)) <;> intro hb2 hm
  · exact sq2 (re hm (hS2.sel [0] rfl))
  refine pn ?_
  refine sq2 (sq2 (cd hm ?_ ?_)) <;> intro hb3 hm
  · exact sq2 (re hm (hS2.sel [0] rfl))
  refine pn ?_
  refine sq2 (sq2 (cd hm ?_ ?_)) <;> intro hb4 hm
  · exact sq2 (re hm (hS2.sel [0] rfl))
  refine pn ?_
  refine sq2 (sq2 (cd hm ?_ ?_)) <;> intro hb5 hm
  · exact sq2 (re hm (hS2.sel [0] rfl))
  refine pn ?_
  exact sq2 (re hm (hS2.sel [0] rfl))

theorem ref03_Size_sim {p0} (hS : Sep g T0 w0 [starL R])  : ∀ r, ref03_Size p0 = some r →
    Calls Tryz.prog 80 #[iv p0] w0 (RetS T0 w0 fun T w v => v = iv r ∧ Sep g T w (R ++ []) ∧ True) := by
  intro r hm
  refine enter Tryz.func80 rfl Tryz.ntmps80 rfl fun J => ?_
  unfold ref03_Size at hm
  refine sq2 (pn ?_)
  refine sq2 (sq2 (pu ?_))
  refine fkC (d := 8) (c := ((p0 == 11) || (p0 == 14))) 3 [(0, iv p0)] rfl (fun hk => ?_) fun J => ?_
  · rcases Bool.eq_false_or_eq_true (p0 == 11) with hb1 | hb1
    · exact  gF2 (d0 := 5) rfl rfl (by rw [hb1]; rfl) (pv (r_pkt rfl hb1 rfl) (wlR (fun J => hk J _ (by rw [hb1]; rfl)) ⟨rfl, rfl, trivial⟩))
    exact  gT (d0 := 5) rfl rfl hb1 (pv (r_mi rfl) (gT (d0 := 5) rfl rfl hb1 (pv (r_ib rfl rfl rfl) (pv (r_pkf rfl hb1 rfl) (wlR (fun J => hk J _ (by rw [hb1]; rfl)) ⟨rfl, rfl, trivial⟩)))))
  refine pu ?_
  refine fkN (d := 12) (c := (((p0 == 11) || (p0 == 14)) || (p0 == 16))) 3 [(0, iv p0)] rfl (fun hk => ?_) fun J => ?_
  · rcases Bool.eq_false_or_eq_true ((p0 == 11) || (p0 == 14)) with hb2 | hb2
    · exact  gF2 (d0 := 9) rfl rfl (by rw [hb2]; rfl) (pv (r_pkt rfl hb2 rfl) (wlR (fun J => hk J _ (by rw [hb2]; rfl)) ⟨rfl, rfl, trivial⟩))
    exact  gT (d0 := 9) rfl rfl hb2 (pv (r_mi rfl) (gT (d0 := 9) rfl rfl hb2 (pv (r_ib rfl rfl rfl) (pv (r_pkf rfl hb2 rfl) (wlR (fun J => hk J _ (by rw [hb2]; rfl)) ⟨rfl, rfl, trivial⟩)))))
  refine cd hm ?_ ?_ <;> intro hb3 hm
  · exact sq2 (re hm (hS.sel [0] rfl))
  refine pn ?_
  refine sq2 (sq2 (pu ?_))
  refine fkC (d := 18) (c := ((p0 == 12) || (p0 == 15))) 3 [(0, iv p0)] rfl (fun hk => ?_) fun J => ?_
  · rcases Bool.eq_false_or_eq_true (p0 == 12) with hb4 | hb4
    · exact  gF2 (d0 := 15) rfl rfl (by rw [hb4]; rfl) (pv (r_pkt rfl hb4 rfl) (wlR (fun J => hk J _ (by rw [hb4]; rfl)) ⟨rfl, rfl, trivial⟩))
    exact  gT (d0 := 15) rfl rfl hb4 (pv (r_mi rfl) (gT (d0 := 15) rfl rfl hb4 (pv (r_ib rfl rfl rfl) (pv (r_pkf rfl hb4 rfl) (wlR (fun J => hk J _ (by rw [hb4]; rfl)) ⟨rfl, rfl, trivial⟩)))))
  refine pu ?_
  refine fkN (d := 22) (c := (((p0 == 12) || (p0 == 15)) || (p0 == 17))) 3 [] rfl (fun hk => ?_) fun J => ?_
  · rcases Bool.eq_false_or_eq_true ((p0 == 12) || (p0 == 15)) with hb5 | hb5
    · exact  gF2 (d0 := 19) rfl rfl (by rw [hb5]; rfl) (pv (r_pkt rfl hb5 rfl) (wlR (fun J => hk J _ (by rw [hb5]; rfl)) ⟨rfl, trivial⟩))
    exact  gT (d0 := 19) rfl rfl hb5 (pv (r_mi rfl) (gT (d0 := 19) rfl rfl hb5 (pv (r_ib rfl rfl rfl) (pv (r_pkf rfl hb5 rfl) (wlR (fun J => hk J _ (by rw [hb5]; rfl)) ⟨rfl, trivial⟩)))))
  refine cd hm ?_ ?_ <;> intro hb6 hm
  · exact sq2 (re hm (hS.sel [0] rfl))
  refine pn ?_
  exact sq2 (re hm (hS.sel [0] rfl))

theorem ref03_Machine_in_sim {p0 : ref03Machine} {b_p0 o_p0 : Nat} {H_p0 : List Value → Assn} {a1 c1 a2 n1 c2 a3 c3 a4 n2 c4 a5 n3 c5 p1 p2} (hS : Sep g T0 w0 ([starL R] ++ gref03Machine p0 H_p0 a1 c1 a2 n1 c2 a3 c3 a4 n2 c4 a5 n3 c5)) (hL_p0 : Ln b_p0 o_p0 H_p0) (h1 : SlR (rInt .u32) T0 w0 (sv a1 p0.Code c1) p0.Code) (h2 : SlR (rInt .u32) T0 w0 (sv a3 p0.Inputs c3) p0.Inputs) : ∀ r, ref03_Machine_in p0 p1 p2 = some r →
    Calls Tryz.prog 81 #[pt b_p0 o_p0, iv p1, iv p2] w0 (RetS T0 w0 fun T w v => v = .bool r ∧ Sep g T w (R ++ gref03Machine p0 H_p0 a1 c1 a2 n1 c2 a3 c3 a4 n2 c4 a5 n3 c5) ∧ True) := by
  intro r hm
  refine enter Tryz.func81 rfl Tryz.ntmps81 rfl fun J => ?_
  unfold ref03_Machine_in at hm
  refine sq2 (pn ?_)
  refine sq2 ?_
  obtain ⟨_, hz1, hm⟩ := bindS hm
  have hz1 := nz_some hz1
  refine pu ?_
  refine pv (r_irm rfl rfl hz1) (pu ?_)
  refine fkC (d := 14) (c := (((Int.tmod p1 p2) == 0) && (decide (268435456 ≤ p1)))) 3 [(0, pt b_p0 o_p0), (1, iv p1), (2, iv p2)] rfl (fun hk => ?_) fun J => ?_
  · rcases Bool.eq_false_or_eq_true ((Int.tmod p1 p2) == 0) with hb1 | hb1
    · exact  gT (d0 := 11) rfl rfl hb1 (pv (r_mi rfl) (gT (d0 := 11) rfl rfl hb1 (pv (r_ib rfl rfl rfl) (pv (r_pkt rfl hb1 rfl) (wlR (fun J => hk J _ (by rw [hb1]; rfl)) ⟨rfl, rfl, rfl, rfl, trivial⟩)))))
    exact  gF2 (d0 := 11) rfl rfl (by rw [hb1]; rfl) (pv (r_pkf rfl hb1 rfl) (wlR (fun J => hk J _ (by rw [hb1]; rfl)) ⟨rfl, rfl, rfl, rfl, trivial⟩))
  refine pu ?_
  refine fkC (d := 26) (c := ((((Int.tmod p1 p2) == 0) && (decide (268435456 ≤ p1))) && (decide ((IntKind.wrap .i64 (p1 + p2)) ≤ (IntKind.wrap .i64 (268435456 + (List.length p0.Data : Int))))))) 11 [] rfl (fun hk => ?_) fun J => ?_
  · rcases Bool.eq_false_or_eq_true (((Int.tmod p1 p2) == 0) && (decide (268435456 ≤ p1))) with hb2 | hb2
    · exact  gT (d0 := 15) rfl rfl hb2 (pv (r_mi rfl) (gT (d0 := 15) rfl rfl hb2 (pv (r_mi rfl) (gT (d0 := 15) rfl rfl hb2 (pv (r_ib rfl rfl rfl) (gT (d0 := 15) rfl rfl hb2 (pv (r_mp rfl) (gT (d0 := 15) rfl rfl hb2 (pv (r_nc rfl) (gT (d0 := 15) rfl rfl hb2 (pv (r_fa rfl underlying60 rfl sizeOf23 rfl) (gT (d0 := 15) rfl rfl hb2 (pv (r_ld rfl isAgg23 (hS.cellB (i := 1) ⟨rfl, rfl⟩ hL_p0 (j := 1) rfl)) (gT (d0 := 15) rfl rfl hb2 (pv (r_lnV rfl (hS.own (i := 2) ⟨rfl, rfl⟩).v underlying23) (gT (d0 := 15) rfl rfl hb2 (pv (r_ib rfl rfl rfl) (gT (d0 := 15) rfl rfl hb2 (pv (r_ib rfl rfl rfl) (pv (r_pkt rfl hb2 rfl) (wlR (fun J => hk J _ (by rw [hb2]; rfl)) ⟨rfl, trivial⟩)))))))))))))))))))))
    exact  gF8 (d0 := 15) rfl rfl (by rw [hb2]; rfl) (gF2 (d0 := 15) rfl rfl (by rw [hb2]; rfl) (pv (r_pkf rfl hb2 rfl) (wlR (fun J => hk J _ (by rw [hb2]; rfl)) ⟨rfl, trivial⟩)))
  exact re hm (hS.sel (nrow 0 5) rfl)

theorem ref03_Machine_load_sim {p0 : ref03Machine} {b_p0 o_p0 : Nat} {H_p0 : List Value → Assn} {a1 c1 a2 n1 c2 a3 c3 a4 n2 c4 a5 n3 c5 p1 p2} (hS : Sep g T0 w0 ([starL R] ++ gref03Machine p0 H_p0 a1 c1 a2 n1 c2 a3 c3 a4 n2 c4 a5 n3 c5)) (hL_p0 : Ln b_p0 o_p0 H_p0) (h1 : SlR (rInt .u32) T0 w0 (sv a1 p0.Code c1) p0.Code) (h2 : SlR (rInt .u32) T0 w0 (sv a3 p0.Inputs c3) p0.Inputs) : ∀ r, ref03_Machine_load p0 p1 p2 = some r →
    Calls Tryz.prog 52 #[pt b_p0 o_p0, iv p1, iv p2] w0 (RetS T0 w0 fun T w v => v = .tuple #[.int .u32 r.1, .bool r.2] ∧ Sep g T w (R ++ gref03Machine p0 H_p0 a1 c1 a2 n1 c2 a3 c3 a4 n2 c4 a5 n3 c5) ∧ True) := by
  intro r hm
  refine enter Tryz.func52 rfl Tryz.ntmps52 rfl fun J => ?_
  unfold ref03_Machine_load at hm
  refine sq2 (pn ?_)
  refine sq2 (pu ?_)
  refine cB cf80 hm (ref03_Size_sim (hS.bun (nrow 0 5) [] rfl)) ?_
  rintro y1 _ T1 w1 im1 ⟨rfl, hS1, _⟩ hm
  refine pn ?_
  refine sq2 (cutJ hm (fun kk1 a w2 => ∃ T2 x1, JR (nf 83) g T1 w1 a w2 T2 (kk1 x1 = some r) [(0, pt b_p0 o_p0), (1, iv p1), (2, iv p2), (8, iv y1), (18, .bool x1)] ([starL R] ++ gref03Machine p0 H_p0 a1 c1 a2 n1 c2 a3 c3 a4 n2 c4 a5 n3 c5)) (fun kk1 hm => ?_) ?_)
  · refine pu ?_
    refine fkN (d := 18) (c := ((p1 == 13) && (p2 == 536870924))) 3 [(0, pt b_p0 o_p0), (1, iv p1), (2, iv p2), (8, iv y1)] rfl (fun hk => ?_) fun J => ?_
    · rcases Bool.eq_false_or_eq_true (p1 == 13) with hb1 | hb1
      · exact  gT (d0 := 15) rfl rfl hb1 (pv (r_mi rfl) (gT (d0 := 15) rfl rfl hb1 (pv (r_ib rfl rfl rfl) (pv (r_pkt rfl hb1 rfl) (wlR (fun J => hk J _ (by rw [hb1]; rfl)) ⟨rfl, rfl, rfl, rfl, rfl, trivial⟩)))))
      exact  gF2 (d0 := 15) rfl rfl (by rw [hb1]; rfl) (pv (r_pkf rfl hb1 rfl) (wlR (fun J => hk J _ (by rw [hb1]; rfl)) ⟨rfl, rfl, rfl, rfl, rfl, trivial⟩))
    exact je hm (hS1.sel (nrow 0 5) rfl)
  rintro _ w2 ⟨T2, x1, J, hm, rfl, hS2, im2⟩
  refine cd hm ?_ ?_ <;> intro hb2 hm
  · refine sq2 (sq2 (rqS hS2 (pn ?_)))
    intro w3 T3 im3 hS3
    refine cd hm ?_ ?_ <;> intro hb3 hm
    · refine sq2 ?_
      obtain ⟨u1, hx2, hm⟩ := bindS hm
      refine rqS hS3 (pn ?_)
      intro w4 T4 im4 hS4
      refine t_thenR [(6, .int .u32 u1), (7, .bool true)] ⟨rfl, rfl, trivial⟩ fun J => ?_
      exact re hm (hS4.sel (nrow 0 5) rfl)
    refine pn ?_
    exact sq2 (re hm (hS3.sel (nrow 0 5) rfl))
  refine pn ?_
  refine sq2 (sq2 (pu ?_))
  refine cB cf81 hm (ref03_Machine_in_sim (hS2.bun [0] (nrow 1 4) rfl) hL_p0 (h1.mono ch) (h2.mono ch)) ?_
  rintro y2 _ T5 w5 im5 ⟨rfl, hS5, _⟩ hm
  refine cd hm ?_ ?_ <;> intro hb4 hm
  · exact sq2 (re hm (hS5.sel (nrow 0 5) rfl))
  refine pn ?_
  refine sq2 (pn ?_)
  refine sq2 (sq2 (pn ?_))
  refine lpJ hm (fun bd1 o1 m a w6 => ∃ T6 x2 x3, JR (nf 83) g T5 w5 a w6 T6 (loopM bd1 m (x2, x3) = some o1) [(0, pt b_p0 o_p0), (1, iv p1), (2, iv p2), (9, iv x2), (10, iv x3)] ([starL R] ++ gref03Machine p0 H_p0 a1 c1 a2 n1 c2 a3 c3 a4 n2 c4 a5 n3 c5)) (fun _ _ h => je h (hS5.sel (nrow 0 5) rfl)) ?_
  rintro bd1 hbd1 o1 hq1 _ _ w6 ⟨T6, x2, x3, J, ho1, rfl, hS6, im6⟩
  obtain ⟨m1, z1, rfl, hm, hn1⟩ := lrE ho1 hbd1
  refine sq2 (sq2 (cd hm ?_ ?_)) <;> intro hb5 hm
  · refine pn ?_
    refine sq2 (blk ?_)
    obtain ⟨u2, hx4, hm⟩ := bindS hm
    exact lg hm hn1 (hS6.sel (nrow 0 5) rfl)
  have hm := brkE hm hn1 hq1
  refine pn ?_
  refine cutJ hm (fun kk2 a w7 => ∃ T7 x4, JR (nf 83) g T6 w6 a w7 T7 (kk2 x4 = some r) [(1, iv p1), (9, iv x4)] ([starL R] ++ gref03Machine p0 H_p0 a1 c1 a2 n1 c2 a3 c3 a4 n2 c4 a5 n3 c5)) (fun kk2 hm => ?_) ?_
  · refine sq2 (pu ?_)
    refine fkN (d := 70) (c := ((p1 == 11) && (decide (128 ≤ x2)))) 3 [(1, iv p1), (9, iv x2)] rfl (fun hk => ?_) fun J => ?_
    · rcases Bool.eq_false_or_eq_true (p1 == 11) with hb6 | hb6
      · exact  gT (d0 := 67) rfl rfl hb6 (pv (r_mi rfl) (gT (d0 := 67) rfl rfl hb6 (pv (r_ib rfl rfl rfl) (pv (r_pkt rfl hb6 rfl) (wlR (fun J => hk J _ (by rw [hb6]; rfl)) ⟨rfl, rfl, rfl, trivial⟩)))))
      exact  gF2 (d0 := 67) rfl rfl (by rw [hb6]; rfl) (pv (r_pkf rfl hb6 rfl) (wlR (fun J => hk J _ (by rw [hb6]; rfl)) ⟨rfl, rfl, rfl, trivial⟩))
    refine cd hm ?_ ?_ <;> intro hb7 hm
    · exact je hm (hS6.sel (nrow 0 5) rfl)
    exact je hm (hS6.sel (nrow 0 5) rfl)
  rintro _ w7 ⟨T7, x4, J, hm, rfl, hS7, im7⟩
  refine cutJ hm (fun kk3 a w8 => ∃ T8 x5, JR (nf 83) g T7 w7 a w8 T8 (kk3 x5 = some r) [(9, iv x5)] ([starL R] ++ gref03Machine p0 H_p0 a1 c1 a2 n1 c2 a3 c3 a4 n2 c4 a5 n3 c5)) (fun kk3 hm => ?_) ?_
  · refine sq2 (pu ?_)
    refine fkN (d := 78) (c := ((p1 == 12) && (decide (32768 ≤ x4)))) 3 [(9, iv x4)] rfl (fun hk => ?_) fun J => ?_
    · rcases Bool.eq_false_or_eq_true (p1 == 12) with hb8 | hb8
      · exact  gT (d0 := 75) rfl rfl hb8 (pv (r_mi rfl) (gT (d0 := 75) rfl rfl hb8 (pv (r_ib rfl rfl rfl) (pv (r_pkt rfl hb8 rfl) (wlR (fun J => hk J _ (by rw [hb8]; rfl)) ⟨rfl, rfl, trivial⟩)))))
      exact  gF2 (d0 := 75) rfl rfl (by rw [hb8]; rfl) (pv (r_pkf rfl hb8 rfl) (wlR (fun J => hk J _ (by rw [hb8]; rfl)) ⟨rfl, rfl, trivial⟩))
    refine cd hm ?_ ?_ <;> intro hb9 hm
    · exact je hm (hS7.sel (nrow 0 5) rfl)
    exact je hm (hS7.sel (nrow 0 5) rfl)
  rintro _ w8 ⟨T8, x5, J, hm, rfl, hS8, im8⟩
  refine sq2 (pu ?_)
  refine cB cf50 hm (ref01_Cut_sim (hS8.bun (nrow 0 5) [] rfl)) ?_
  rintro y3 _ T9 w9 im9 ⟨rfl, hS9, _⟩ hm
  exact re hm (hS9.sel (nrow 0 5) rfl)

theorem ref03_Machine_store_sim {p0 : ref03Machine} {b_p0 o_p0 : Nat} {H_p0 : List Value → Assn} {a1 c1 a2 n1 c2 a3 c3 a4 n2 c4 a5 n3 c5 p1 p2 p3} (hS : Sep g T0 w0 ([starL R] ++ gref03Machine p0 H_p0 a1 c1 a2 n1 c2 a3 c3 a4 n2 c4 a5 n3 c5)) (hL_p0 : Ln b_p0 o_p0 H_p0) (h1 : SlR (rInt .u32) T0 w0 (sv a1 p0.Code c1) p0.Code) (h2 : SlR (rInt .u32) T0 w0 (sv a3 p0.Inputs c3) p0.Inputs) : ∀ r, ref03_Machine_store p0 p1 p2 p3 = some r →
    Calls Tryz.prog 53 #[pt b_p0 o_p0, iv p1, iv p2, .int .u32 p3] w0 (RetS T0 w0 fun T w v => ∃ a8 c8 a9 c9 a10 n6 c10, v = .bool r.1 ∧ Sep g T w (R ++ gref03Machine r.2 H_p0 a8 c8 a2 n1 c2 a9 c9 a4 n2 c4 a10 n6 c10) ∧ SlR (rInt .u32) T w (sv a8 r.2.Code c8) r.2.Code ∧ SlR (rInt .u32) T w (sv a9 r.2.Inputs c9) r.2.Inputs ∧ True) := by
  intro r hm
  refine enter Tryz.func53 rfl Tryz.ntmps53 rfl fun J => ?_
  unfold ref03_Machine_store at hm
  refine sq2 (pn ?_)
  refine sq2 (pn ?_)
  refine sq2 (sq2 (pu ?_))
  refine fkN (d := 20) (c := ((p1 == 18) && ((IntKind.wrap .i64 (p2 - 536870912)) == 0))) 3 [(0, pt b_p0 o_p0), (1, iv p1), (2, iv p2), (3, .int .u32 p3), (9, iv (IntKind.wrap .i64 (p2 - 536870912)))] rfl (fun hk => ?_) fun J => ?_
  · rcases Bool.eq_false_or_eq_true (p1 == 18) with hb1 | hb1
    · exact  gT (d0 := 17) rfl rfl hb1 (pv (r_mi rfl) (gT (d0 := 17) rfl rfl hb1 (pv (r_ib rfl rfl rfl) (pv (r_pkt rfl hb1 rfl) (wlR (fun J => hk J _ (by rw [hb1]; rfl)) ⟨rfl, rfl, rfl, rfl, rfl, rfl, trivial⟩)))))
    exact  gF2 (d0 := 17) rfl rfl (by rw [hb1]; rfl) (pv (r_pkf rfl hb1 rfl) (wlR (fun J => hk J _ (by rw [hb1]; rfl)) ⟨rfl, rfl, rfl, rfl, rfl, rfl, trivial⟩))
  refine cd hm ?_ ?_ <;> intro hb2 hm
  · refine sq2 (sB 1 5 hL_p0 hS ?_)
    intro w1 im1 hS1
    refine pn ?_
    exact sq2 (re hm (hS1.sel (nrow 0 5) rfl))
  refine pn ?_
  refine sq2 (cutJ hm (fun kk1 a w2 => ∃ T1 x1, JR (nf 97) g T0 w0 a w2 T1 (kk1 x1 = some r) [(0, pt b_p0 o_p0), (1, iv p1), (2, iv p2), (3, .int .u32 p3), (9, iv (IntKind.wrap .i64 (p2 - 536870912))), (30, .bool x1)] ([starL R] ++ gref03Machine p0 H_p0 a1 c1 a2 n1 c2 a3 c3 a4 n2 c4 a5 n3 c5)) (fun kk1 hm => ?_) ?_)
  · refine pu ?_
    refine fkN (d := 30) (c := ((p1 == 18) && ((IntKind.wrap .i64 (p2 - 536870912)) == 4))) 3 [(0, pt b_p0 o_p0), (1, iv p1), (2, iv p2), (3, .int .u32 p3), (9, iv (IntKind.wrap .i64 (p2 - 536870912)))] rfl (fun hk => ?_) fun J => ?_
    · rcases Bool.eq_false_or_eq_true (p1 == 18) with hb3 | hb3
      · exact  gT (d0 := 27) rfl rfl hb3 (pv (r_mi rfl) (gT (d0 := 27) rfl rfl hb3 (pv (r_ib rfl rfl rfl) (pv (r_pkt rfl hb3 rfl) (wlR (fun J => hk J _ (by rw [hb3]; rfl)) ⟨rfl, rfl, rfl, rfl, rfl, rfl, trivial⟩)))))
      exact  gF2 (d0 := 27) rfl rfl (by rw [hb3]; rfl) (pv (r_pkf rfl hb3 rfl) (wlR (fun J => hk J _ (by rw [hb3]; rfl)) ⟨rfl, rfl, rfl, rfl, rfl, rfl, trivial⟩))
    exact je hm (hS.sel (nrow 0 5) rfl)
  rintro _ w2 ⟨T1, x1, J, hm, rfl, hS2, im2⟩
  refine cd hm ?_ ?_ <;> intro hb4 hm
  · refine sq2 (rsS [0, 0, 0, 0, 1, 0, 0, 0, 1, 0, 0, 2, 2, 0, 0, 2] [0, 1, 2, 3, 4, 5, 6, 7, 8, 9, 10, 11, 12, 13, 14, 15] hS2 fun w3 im3 hS3 => ?_)
    refine pu ?_
    refine s0 rfl trivial (fun _ => r_bd (by kernel_rfl) rfl (u := .agg #[.int .u32 p0.Seq, .int .u32 p3])) rfl ?_
    refine s2W [0] ?_
    refine obS (r := rGRecord) (l := ([(⟨p0.Seq, p3⟩ : GRecord)] : List GRecord)) (css := [[.int .u32 p0.Seq, .int .u32 p3]]) hS3 ⟨(rGRecord_mk (x := (⟨p0.Seq, p3⟩ : GRecord))  : rGRecord.rp _ _ _ _), trivial⟩ ?_
    intro w4 a6 n4 c6 im4 hS4
    refine pu ?_
    obtain ⟨z_1, hro1, hm⟩ := bindS hm
    refine s2W [0] ?_
    refine oaO 5 hS4 (room_some hro1) ?_
    intro w5 a7 n5 c7 im5 hS5
    refine s2W [] ?_
    refine osB 2 7 hL_p0 hS5 ?_
    intro w6 im6 hS6
    refine pn ?_
    exact sq2 (re hm (hS6.sel (nrow 1 5) rfl))
  refine pn ?_
  refine sq2 (sq2 (pu ?_))
  refine fkN (d := 51) (c := ((p1 == 18) && ((IntKind.wrap .i64 (p2 - 536870912)) == 8))) 3 [(0, pt b_p0 o_p0), (1, iv p1), (2, iv p2), (3, .int .u32 p3), (9, iv (IntKind.wrap .i64 (p2 - 536870912)))] rfl (fun hk => ?_) fun J => ?_
  · rcases Bool.eq_false_or_eq_true (p1 == 18) with hb5 | hb5
    · exact  gT (d0 := 48) rfl rfl hb5 (pv (r_mi rfl) (gT (d0 := 48) rfl rfl hb5 (pv (r_ib rfl rfl rfl) (pv (r_pkt rfl hb5 rfl) (wlR (fun J => hk J _ (by rw [hb5]; rfl)) ⟨rfl, rfl, rfl, rfl, rfl, rfl, trivial⟩)))))
    exact  gF2 (d0 := 48) rfl rfl (by rw [hb5]; rfl) (pv (r_pkf rfl hb5 rfl) (wlR (fun J => hk J _ (by rw [hb5]; rfl)) ⟨rfl, rfl, rfl, rfl, rfl, rfl, trivial⟩))
  refine cd hm ?_ ?_ <;> intro hb6 hm
  · refine sq2 (sB 1 6 hL_p0 hS2 ?_)
    intro w7 im7 hS7
    refine pn ?_
    exact sq2 (re hm (hS7.sel (nrow 0 5) rfl))
  refine pn ?_
  refine sq2 (sq2 (pu ?_))
  refine fkN (d := 61) (c := ((p1 == 18) && ((IntKind.wrap .i64 (p2 - 536870912)) == 16))) 3 [(0, pt b_p0 o_p0), (1, iv p1), (2, iv p2), (3, .int .u32 p3)] rfl (fun hk => ?_) fun J => ?_
  · rcases Bool.eq_false_or_eq_true (p1 == 18) with hb7 | hb7
    · exact  gT (d0 := 58) rfl rfl hb7 (pv (r_mi rfl) (gT (d0 := 58) rfl rfl hb7 (pv (r_ib rfl rfl rfl) (pv (r_pkt rfl hb7 rfl) (wlR (fun J => hk J _ (by rw [hb7]; rfl)) ⟨rfl, rfl, rfl, rfl, rfl, trivial⟩)))))
    exact  gF2 (d0 := 58) rfl rfl (by rw [hb7]; rfl) (pv (r_pkf rfl hb7 rfl) (wlR (fun J => hk J _ (by rw [hb7]; rfl)) ⟨rfl, rfl, rfl, rfl, rfl, trivial⟩))
  refine cd hm ?_ ?_ <;> intro hb8 hm
  · refine sq2 (sB 1 9 hL_p0 hS2 ?_)
    intro w8 im8 hS8
    refine pn ?_
    refine sq2 (sB 1 10 hL_p0 hS8 ?_)
    intro w9 im9 hS9
    refine pn ?_
    exact sq2 (re hm (hS9.sel (nrow 0 5) rfl))
  refine pn ?_
  refine sq2 (pu ?_)
  refine cB cf80 hm (ref03_Size_sim (hS2.bun (nrow 0 5) [] rfl)) ?_
  rintro y1 _ T2 w10 im10 ⟨rfl, hS10, _⟩ hm
  refine pn ?_
  refine sq2 (sq2 (pu ?_))
  refine cB cf81 hm (ref03_Machine_in_sim (hS10.bun [0] (nrow 1 4) rfl) hL_p0 (h1.mono ch) (h2.mono ch)) ?_
  rintro y2 _ T3 w11 im11 ⟨rfl, hS11, _⟩ hm
  refine cd hm ?_ ?_ <;> intro hb9 hm
  · exact sq2 (re hm (hS11.sel (nrow 0 5) rfl))
  refine pn ?_
  refine sq2 (pn ?_)
  refine sq2 (sq2 (pn ?_))
  refine lpJ hm (fun bd1 o1 m a w12 => ∃ (T4 : _) (x2 : List Int) (x3 : _) (x4 : _), JR (nf 97) g T3 w11 a w12 T4 (loopM bd1 m (x2, x3, x4) = some o1) [(0, pt b_p0 o_p0), (2, iv p2), (10, iv y1), (11, iv x3), (12, iv x4)] ([starL R] ++ gref03Machine ({ p0 with Data := x2 }) H_p0 a1 c1 a2 n1 c2 a3 c3 a4 n2 c4 a5 n3 c5)) (fun _ _ h => je h (hS11.sel (nrow 0 5) rfl)) ?_
  rintro bd1 hbd1 o1 hq1 _ _ w12 ⟨T4, x2, x3, x4, J, ho1, rfl, hS12, im12⟩
  obtain ⟨m1, z1, rfl, hm, hn1⟩ := lrE ho1 hbd1
  refine sq2 (sq2 (cd hm ?_ ?_)) <;> intro hb10 hm
  · refine pn ?_
    refine sq2 (blk (sq2 ?_))
    obtain ⟨u1, hx3, hm⟩ := bindS hm
    obtain ⟨u2, hx4, hm⟩ := bindS hm
    obtain rfl : u1 = u2 := oI (hx3.symm.trans hx4)
    refine pu ?_
    refine wl rfl (stOc (q := 2) (j := 0) (u' := IntKind.wrap .u8 (Int.tmod x3 256)) hS12 ⟨rfl, rfl⟩ hx4 rfl rfl rfl sizeOf5 rfl rfl rfl (fun c0 hc0 => by rw [storeL_all (r := (rInt .u8)) hc0 rfl]; exact rfl) fun w13 im13 hS13 => ?_)
    refine pn ?_
    exact lg hm hn1 (hS13.sel (nrow 0 5) rfl)
  have hm := brkE hm hn1 hq1
  refine pn ?_
  exact sq2 (re hm (hS12.sel (nrow 0 5) rfl))

theorem ref01_Add_sim {p0 p1} (hS : Sep g T0 w0 [starL R])  : ∀ r, ref01_Add p0 p1 = some r →
    Calls Tryz.prog 82 #[.int .u32 p0, .int .u32 p1] w0 (RetS T0 w0 fun T w v => v = .int .u32 r ∧ Sep g T w (R ++ []) ∧ True) := by
  intro r hm
  refine enter Tryz.func82 rfl Tryz.ntmps82 rfl fun J => ?_
  unfold ref01_Add at hm
  refine sq2 (pn ?_)
  refine sq2 (pu ?_)
  refine cB cf50 hm (ref01_Cut_sim (hS.bun [0] [] rfl)) ?_
  rintro y1 _ T1 w1 im1 ⟨rfl, hS1, _⟩ hm
  exact re hm (hS1.sel [0] rfl)

theorem ref01_Sub_sim {p0 p1} (hS : Sep g T0 w0 [starL R])  : ∀ r, ref01_Sub p0 p1 = some r →
    Calls Tryz.prog 83 #[.int .u32 p0, .int .u32 p1] w0 (RetS T0 w0 fun T w v => v = .int .u32 r ∧ Sep g T w (R ++ []) ∧ True) := by
  intro r hm
  refine enter Tryz.func83 rfl Tryz.ntmps83 rfl fun J => ?_
  unfold ref01_Sub at hm
  refine sq2 (pn ?_)
  refine sq2 (pu ?_)
  refine cB cf50 hm (ref01_Cut_sim (hS.bun [0] [] rfl)) ?_
  rintro y1 _ T1 w1 im1 ⟨rfl, hS1, _⟩ hm
  exact re hm (hS1.sel [0] rfl)

theorem ref01_power_sim {p0} (hS : Sep g T0 w0 [starL R])  : ∀ r, ref01_power p0 = some r →
    Calls Tryz.prog 114 #[.int .u32 p0] w0 (RetS T0 w0 fun T w v => v = iv r ∧ Sep g T w (R ++ []) ∧ True) := by
  intro r hm
  refine enter Tryz.func114 rfl Tryz.ntmps114 rfl fun J => ?_
  unfold ref01_power at hm
  refine sq2 (pn ?_)
  refine sq2 (pn ?_)
  refine sq2 (sq2 (pn ?_))
  refine lpJ hm (fun bd1 o1 m a w1 => ∃ T1 x1 x2, JR (nf 15) g T0 w0 a w1 T1 (loopM bd1 m (x1, x2) = some o1) [(0, .int .u32 p0), (3, iv x1), (4, iv x2)] [starL R]) (fun _ _ h => je h (hS.sel [0] rfl)) ?_
  rintro bd1 hbd1 o1 hq1 _ _ w1 ⟨T1, x1, x2, J, ho1, rfl, hS1, im1⟩
  obtain ⟨m1, z1, rfl, hm, hn1⟩ := lrE ho1 hbd1
  refine sq2 (sq2 (cd hm ?_ ?_)) <;> intro hb1 hm
  · refine pn ?_
    exact sq2 (blk (lg hm hn1 (hS1.sel [0] rfl)))
  have hm := brkE hm hn1 hq1
  refine pn ?_
  exact sq2 (re hm (hS1.sel [0] rfl))

theorem ref01_Left_sim {p0 p1} (hS : Sep g T0 w0 [starL R])  : ∀ r, ref01_Left p0 p1 = some r →
    Calls Tryz.prog 84 #[.int .u32 p0, .int .u32 p1] w0 (RetS T0 w0 fun T w v => v = .int .u32 r ∧ Sep g T w (R ++ []) ∧ True) := by
  intro r hm
  refine enter Tryz.func84 rfl Tryz.ntmps84 rfl fun J => ?_
  unfold ref01_Left at hm
  refine sq2 (pn ?_)
  refine sq2 (rsS [0, 0, 0, 2, 0, 0, 0, 2, 0, 2, 0] [0, 1, 2, 6, 3, 4, 5, 7, 8, 9, 10] hS fun w1 im1 hS1 => ?_)
  obtain ⟨y1, hx1, hm⟩ := bindS hm
  refine sS [] cf114 (ref01_power_sim (hS1.bun [0] [] rfl) _ hx1) ?_
  rintro _ T1 w2 im2 ⟨rfl, hS2, _⟩
  refine pu ?_
  obtain ⟨_, hz1, hm⟩ := bindS hm
  have hz1 := nz_some hz1
  obtain ⟨_, hz2, hm⟩ := bindS hm
  have hz2 := nz_some hz2
  obtain ⟨y2, hx2, hm⟩ := bindS hm
  refine s0 rfl trivial (fun _ => r_iq rfl rfl hz1) rfl (s0 rfl trivial (fun _ => r_irm rfl rfl hz2) rfl (sS [] cf114 (ref01_power_sim (hS2.bun [0] [] rfl) _ hx2) ?_))
  rintro _ T2 w3 im3 ⟨rfl, hS3, _⟩
  refine pu ?_
  obtain ⟨y3, hx3, hm⟩ := bindS hm
  refine sS [] cf50 (ref01_Cut_sim (hS3.bun [0] [] rfl) _ hx3) ?_
  rintro _ T3 w4 im4 ⟨rfl, hS4, _⟩
  exact re hm (hS4.sel [0] rfl)

theorem ref01_Less_sim {p0 p1} (hS : Sep g T0 w0 [starL R])  : ∀ r, ref01_Less p0 p1 = some r →
    Calls Tryz.prog 85 #[.int .u32 p0, .int .u32 p1] w0 (RetS T0 w0 fun T w v => v = .int .u32 r ∧ Sep g T w (R ++ []) ∧ True) := by
  intro r hm
  refine enter Tryz.func85 rfl Tryz.ntmps85 rfl fun J => ?_
  unfold ref01_Less at hm
  refine sq2 (pn ?_)
  refine sq2 (sq2 (pu ?_))
  refine cB cf79 hm (ref01_Signed_sim (hS.bun [0] [] rfl)) ?_
  rintro y1 _ T1 w1 im1 ⟨rfl, hS1, _⟩ hm
  refine pu ?_
  refine cB cf79 hm (ref01_Signed_sim (hS1.bun [0] [] rfl)) ?_
  rintro y2 _ T2 w2 im2 ⟨rfl, hS2, _⟩ hm
  refine cd hm ?_ ?_ <;> intro hb1 hm
  · exact sq2 (re hm (hS2.sel [0] rfl))
  refine pn ?_
  exact sq2 (re hm (hS2.sel [0] rfl))

theorem ref01_LessU_sim {p0 p1} (hS : Sep g T0 w0 [starL R])  : ∀ r, ref01_LessU p0 p1 = some r →
    Calls Tryz.prog 86 #[.int .u32 p0, .int .u32 p1] w0 (RetS T0 w0 fun T w v => v = .int .u32 r ∧ Sep g T w (R ++ []) ∧ True) := by
  intro r hm
  refine enter Tryz.func86 rfl Tryz.ntmps86 rfl fun J => ?_
  unfold ref01_LessU at hm
  refine sq2 (pn ?_)
  refine sq2 (sq2 (cd hm ?_ ?_)) <;> intro hb1 hm
  · exact sq2 (re hm (hS.sel [0] rfl))
  refine pn ?_
  exact sq2 (re hm (hS.sel [0] rfl))

theorem ref01_Right_sim {p0 p1} (hS : Sep g T0 w0 [starL R])  : ∀ r, ref01_Right p0 p1 = some r →
    Calls Tryz.prog 87 #[.int .u32 p0, .int .u32 p1] w0 (RetS T0 w0 fun T w v => v = .int .u32 r ∧ Sep g T w (R ++ []) ∧ True) := by
  intro r hm
  refine enter Tryz.func87 rfl Tryz.ntmps87 rfl fun J => ?_
  unfold ref01_Right at hm
  refine sq2 (pn ?_)
  refine sq2 (pu ?_)
  refine cB cf114 hm (ref01_power_sim (hS.bun [0] [] rfl)) ?_
  rintro y1 _ T1 w1 im1 ⟨rfl, hS1, _⟩ hm
  obtain ⟨_, hz1, hm⟩ := bindS hm
  have hz1 := nz_some hz1
  exact pv (r_iq rfl rfl hz1) (re hm (hS1.sel [0] rfl))

theorem ref01_RightS_sim {p0 p1} (hS : Sep g T0 w0 [starL R])  : ∀ r, ref01_RightS p0 p1 = some r →
    Calls Tryz.prog 88 #[.int .u32 p0, .int .u32 p1] w0 (RetS T0 w0 fun T w v => v = .int .u32 r ∧ Sep g T w (R ++ []) ∧ True) := by
  intro r hm
  refine enter Tryz.func88 rfl Tryz.ntmps88 rfl fun J => ?_
  unfold ref01_RightS at hm
  refine sq2 (pn ?_)
  refine sq2 (pu ?_)
  refine cB cf79 hm (ref01_Signed_sim (hS.bun [0] [] rfl)) ?_
  rintro y1 _ T1 w1 im1 ⟨rfl, hS1, _⟩ hm
  refine pu ?_
  refine cB cf114 hm (ref01_power_sim (hS1.bun [0] [] rfl)) ?_
  rintro y2 _ T2 w2 im2 ⟨rfl, hS2, _⟩ hm
  refine pn ?_
  refine sq2 ?_
  obtain ⟨_, hz1, hm⟩ := bindS hm
  have hz1 := nz_some hz1
  refine pu ?_
  refine pv (r_iq rfl rfl hz1) (pn ?_)
  refine cutJ hm (fun kk1 a w3 => ∃ T3 x1, JR (nf 28) g T2 w2 a w3 T3 (kk1 x1 = some r) [(7, iv x1)] [starL R]) (fun kk1 hm => ?_) ?_
  · refine sq2 (pu ?_)
    rcases bc hm with ⟨hb1, hm⟩ | ⟨hb1, hm⟩
    · refine cd hm ?_ ?_ <;> intro hb2 hm
      · exact je hm (hS2.sel [0] rfl)
      exact je hm (hS2.sel [0] rfl)
    refine pn ?_
    refine cnd (b := false) rfl (fun h => nomatch h) (fun _ => ?_)
    exact je hm (hS2.sel [0] rfl)
  rintro _ w3 ⟨T3, x1, J, hm, rfl, hS3, im3⟩
  refine sq2 (pu ?_)
  refine cB cf50 hm (ref01_Cut_sim (hS3.bun [0] [] rfl)) ?_
  rintro y3 _ T4 w4 im4 ⟨rfl, hS4, _⟩ hm
  exact re hm (hS4.sel [0] rfl)

theorem ref01_half_sim {p0 p1} (hS : Sep g T0 w0 [starL R])  : ∀ r, ref01_half p0 p1 = some r →
    Calls Tryz.prog 179 #[.int .u32 p0, .int .u32 p1] w0 (RetS T0 w0 fun T w v => v = .tuple #[.int .u32 r.1, .int .u32 r.2] ∧ Sep g T w (R ++ []) ∧ True) := by
  intro r hm
  refine enter Tryz.func179 rfl Tryz.ntmps179 rfl fun J => ?_
  unfold ref01_half at hm
  refine sq2 (pn ?_)
  refine sq2 (pn ?_)
  refine sq2 (pn ?_)
  refine sq2 (pu ?_)
  refine nil (t_then ?_)
  refine sq2 (pu ?_)
  refine nil (t_thenR [(6, iv (Int.tmod (IntKind.wrap .i64 p0) 65536)), (7, iv (IntKind.wrap .i64 (Int.tdiv (IntKind.wrap .i64 p0) 65536))), (9, iv (IntKind.wrap .i64 (Int.tdiv (IntKind.wrap .i64 p1) 65536))), (10, iv (IntKind.wrap .i64 ((Int.tmod (IntKind.wrap .i64 p0) 65536) * (Int.tmod (IntKind.wrap .i64 p1) 65536)))), (11, iv (IntKind.wrap .i64 ((IntKind.wrap .i64 ((IntKind.wrap .i64 (Int.tdiv (IntKind.wrap .i64 p0) 65536)) * (Int.tmod (IntKind.wrap .i64 p1) 65536))) + (IntKind.wrap .i64 (Int.tdiv (IntKind.wrap .i64 ((Int.tmod (IntKind.wrap .i64 p0) 65536) * (Int.tmod (IntKind.wrap .i64 p1) 65536))) 65536)))))] ⟨rfl, rfl, rfl, rfl, rfl, trivial⟩ fun J => ?_)
  refine sq2 (pu ?_)
  refine nil (t_then ?_)
  refine sq2 (pu ?_)
  refine nil (t_thenR [(4, .int .u32 (IntKind.wrap .u32 (IntKind.wrap .i64 ((IntKind.wrap .i64 ((IntKind.wrap .i64 ((IntKind.wrap .i64 (Int.tdiv (IntKind.wrap .i64 p0) 65536)) * (IntKind.wrap .i64 (Int.tdiv (IntKind.wrap .i64 p1) 65536)))) + (IntKind.wrap .i64 (Int.tdiv (IntKind.wrap .i64 ((IntKind.wrap .i64 ((IntKind.wrap .i64 (Int.tdiv (IntKind.wrap .i64 p0) 65536)) * (Int.tmod (IntKind.wrap .i64 p1) 65536))) + (IntKind.wrap .i64 (Int.tdiv (IntKind.wrap .i64 ((Int.tmod (IntKind.wrap .i64 p0) 65536) * (Int.tmod (IntKind.wrap .i64 p1) 65536))) 65536)))) 65536)))) + (IntKind.wrap .i64 (Int.tdiv (IntKind.wrap .i64 ((IntKind.wrap .i64 ((Int.tmod (IntKind.wrap .i64 p0) 65536) * (IntKind.wrap .i64 (Int.tdiv (IntKind.wrap .i64 p1) 65536)))) + (Int.tmod (IntKind.wrap .i64 ((IntKind.wrap .i64 ((IntKind.wrap .i64 (Int.tdiv (IntKind.wrap .i64 p0) 65536)) * (Int.tmod (IntKind.wrap .i64 p1) 65536))) + (IntKind.wrap .i64 (Int.tdiv (IntKind.wrap .i64 ((Int.tmod (IntKind.wrap .i64 p0) 65536) * (Int.tmod (IntKind.wrap .i64 p1) 65536))) 65536)))) 65536))) 65536)))))), (5, .int .u32 (IntKind.wrap .u32 (IntKind.wrap .i64 ((IntKind.wrap .i64 ((Int.tmod (IntKind.wrap .i64 ((IntKind.wrap .i64 ((Int.tmod (IntKind.wrap .i64 p0) 65536) * (IntKind.wrap .i64 (Int.tdiv (IntKind.wrap .i64 p1) 65536)))) + (Int.tmod (IntKind.wrap .i64 ((IntKind.wrap .i64 ((IntKind.wrap .i64 (Int.tdiv (IntKind.wrap .i64 p0) 65536)) * (Int.tmod (IntKind.wrap .i64 p1) 65536))) + (IntKind.wrap .i64 (Int.tdiv (IntKind.wrap .i64 ((Int.tmod (IntKind.wrap .i64 p0) 65536) * (Int.tmod (IntKind.wrap .i64 p1) 65536))) 65536)))) 65536))) 65536) * 65536)) + (Int.tmod (IntKind.wrap .i64 ((Int.tmod (IntKind.wrap .i64 p0) 65536) * (Int.tmod (IntKind.wrap .i64 p1) 65536))) 65536)))))] ⟨rfl, rfl, trivial⟩ fun J => ?_)
  exact re hm (hS.sel [0] rfl)

theorem ref01_Mul_sim {p0 p1} (hS : Sep g T0 w0 [starL R])  : ∀ r, ref01_Mul p0 p1 = some r →
    Calls Tryz.prog 115 #[.int .u32 p0, .int .u32 p1] w0 (RetS T0 w0 fun T w v => v = .int .u32 r ∧ Sep g T w (R ++ []) ∧ True) := by
  intro r hm
  refine enter Tryz.func115 rfl Tryz.ntmps115 rfl fun J => ?_
  unfold ref01_Mul at hm
  refine sq2 (pn ?_)
  refine sq2 (pu ?_)
  refine cB cf179 hm (ref01_half_sim (hS.bun [0] [] rfl)) ?_
  rintro y1 _ T1 w1 im1 ⟨rfl, hS1, _⟩ hm
  refine pn ?_
  exact sq2 (re hm (hS1.sel [0] rfl))

theorem ref01_HighU_sim {p0 p1} (hS : Sep g T0 w0 [starL R])  : ∀ r, ref01_HighU p0 p1 = some r →
    Calls Tryz.prog 118 #[.int .u32 p0, .int .u32 p1] w0 (RetS T0 w0 fun T w v => v = .int .u32 r ∧ Sep g T w (R ++ []) ∧ True) := by
  intro r hm
  refine enter Tryz.func118 rfl Tryz.ntmps118 rfl fun J => ?_
  unfold ref01_HighU at hm
  refine sq2 (pn ?_)
  refine sq2 (pu ?_)
  refine cB cf179 hm (ref01_half_sim (hS.bun [0] [] rfl)) ?_
  rintro y1 _ T1 w1 im1 ⟨rfl, hS1, _⟩ hm
  refine pn ?_
  exact sq2 (re hm (hS1.sel [0] rfl))

theorem ref01_HighSU_sim {p0 p1} (hS : Sep g T0 w0 [starL R])  : ∀ r, ref01_HighSU p0 p1 = some r →
    Calls Tryz.prog 117 #[.int .u32 p0, .int .u32 p1] w0 (RetS T0 w0 fun T w v => v = .int .u32 r ∧ Sep g T w (R ++ []) ∧ True) := by
  intro r hm
  refine enter Tryz.func117 rfl Tryz.ntmps117 rfl fun J => ?_
  unfold ref01_HighSU at hm
  refine sq2 (pn ?_)
  refine sq2 (pu ?_)
  refine cB cf118 hm (ref01_HighU_sim (hS.bun [0] [] rfl)) ?_
  rintro y1 _ T1 w1 im1 ⟨rfl, hS1, _⟩ hm
  refine pn ?_
  refine sq2 (sq2 (pu ?_))
  refine cB cf79 hm (ref01_Signed_sim (hS1.bun [0] [] rfl)) ?_
  rintro y2 _ T2 w2 im2 ⟨rfl, hS2, _⟩ hm
  refine cd hm ?_ ?_ <;> intro hb1 hm
  · refine sq2 (pu ?_)
    refine cB cf83 hm (ref01_Sub_sim (hS2.bun [0] [] rfl)) ?_
    rintro y3 _ T3 w3 im3 ⟨rfl, hS3, _⟩ hm
    exact re hm (hS3.sel [0] rfl)
  refine pn ?_
  exact sq2 (re hm (hS2.sel [0] rfl))

theorem ref01_High_sim {p0 p1} (hS : Sep g T0 w0 [starL R])  : ∀ r, ref01_High p0 p1 = some r →
    Calls Tryz.prog 116 #[.int .u32 p0, .int .u32 p1] w0 (RetS T0 w0 fun T w v => v = .int .u32 r ∧ Sep g T w (R ++ []) ∧ True) := by
  intro r hm
  refine enter Tryz.func116 rfl Tryz.ntmps116 rfl fun J => ?_
  unfold ref01_High at hm
  refine sq2 (pn ?_)
  refine sq2 (pu ?_)
  refine cB cf117 hm (ref01_HighSU_sim (hS.bun [0] [] rfl)) ?_
  rintro y1 _ T1 w1 im1 ⟨rfl, hS1, _⟩ hm
  refine pn ?_
  refine sq2 (sq2 (pu ?_))
  refine cB cf79 hm (ref01_Signed_sim (hS1.bun [0] [] rfl)) ?_
  rintro y2 _ T2 w2 im2 ⟨rfl, hS2, _⟩ hm
  refine cd hm ?_ ?_ <;> intro hb1 hm
  · refine sq2 (pu ?_)
    refine cB cf83 hm (ref01_Sub_sim (hS2.bun [0] [] rfl)) ?_
    rintro y3 _ T3 w3 im3 ⟨rfl, hS3, _⟩ hm
    exact re hm (hS3.sel [0] rfl)
  refine pn ?_
  exact sq2 (re hm (hS2.sel [0] rfl))

theorem ref01_abs_sim {p0} (hS : Sep g T0 w0 [starL R])  : ∀ r, ref01_abs p0 = some r →
    Calls Tryz.prog 180 #[iv p0] w0 (RetS T0 w0 fun T w v => v = iv r ∧ Sep g T w (R ++ []) ∧ True) := by
  intro r hm
  refine enter Tryz.func180 rfl Tryz.ntmps180 rfl fun J => ?_
  unfold ref01_abs at hm
  refine sq2 (pn ?_)
  refine sq2 (sq2 (cd hm ?_ ?_)) <;> intro hb1 hm
  · exact sq2 (re hm (hS.sel [0] rfl))
  refine pn ?_
  exact sq2 (re hm (hS.sel [0] rfl))

theorem ref01_Div_sim {p0 p1} (hS : Sep g T0 w0 [starL R])  : ∀ r, ref01_Div p0 p1 = some r →
    Calls Tryz.prog 119 #[.int .u32 p0, .int .u32 p1] w0 (RetS T0 w0 fun T w v => v = .int .u32 r ∧ Sep g T w (R ++ []) ∧ True) := by
  intro r hm
  refine enter Tryz.func119 rfl Tryz.ntmps119 rfl fun J => ?_
  unfold ref01_Div at hm
  refine sq2 (pn ?_)
  refine sq2 (pu ?_)
  refine cB cf79 hm (ref01_Signed_sim (hS.bun [0] [] rfl)) ?_
  rintro y1 _ T1 w1 im1 ⟨rfl, hS1, _⟩ hm
  refine pu ?_
  refine cB cf79 hm (ref01_Signed_sim (hS1.bun [0] [] rfl)) ?_
  rintro y2 _ T2 w2 im2 ⟨rfl, hS2, _⟩ hm
  refine pn ?_
  refine sq2 (sq2 (cd hm ?_ ?_)) <;> intro hb1 hm
  · exact sq2 (re hm (hS2.sel [0] rfl))
  refine pn ?_
  refine sq2 (pu ?_)
  refine cB cf180 hm (ref01_abs_sim (hS2.bun [0] [] rfl)) ?_
  rintro y3 _ T3 w3 im3 ⟨rfl, hS3, _⟩ hm
  refine pu ?_
  refine cB cf180 hm (ref01_abs_sim (hS3.bun [0] [] rfl)) ?_
  rintro y4 _ T4 w4 im4 ⟨rfl, hS4, _⟩ hm
  obtain ⟨_, hz1, hm⟩ := bindS hm
  have hz1 := nz_some hz1
  refine pv (r_iq rfl rfl hz1) (pn ?_)
  refine cutJ hm (fun kk1 a w5 => ∃ T5 x1, JR (nf 37) g T4 w4 a w5 T5 (kk1 x1 = some r) [(7, iv x1)] [starL R]) (fun kk1 hm => ?_) ?_
  · refine sq2 (pu ?_)
    rcases bc hm with ⟨hb2, hm⟩ | ⟨hb2, hm⟩
    · refine pu ?_
      rcases bc hm with ⟨hb3, hm⟩ | ⟨hb3, hm⟩
      · refine pu ?_
        refine nil (t_thenR [(7, iv (IntKind.wrap .i64 (Int.tdiv y3 y4))), (32, .bool true)] ⟨rfl, rfl, trivial⟩ fun J => ?_)
        refine cnd (b := true) rfl (fun _ => ?_) (fun h => nomatch h)
        exact je hm (hS4.sel [0] rfl)
      refine pu ?_
      rcases bc hm with ⟨hb4, hm⟩ | ⟨hb4, hm⟩
      · refine pu ?_
        refine nil (t_thenR [(7, iv (IntKind.wrap .i64 (Int.tdiv y3 y4))), (32, .bool (decide (y2 < 0)))] ⟨rfl, rfl, trivial⟩ fun J => ?_)
        refine cd hm ?_ ?_ <;> intro hb5 hm
        · exact je hm (hS4.sel [0] rfl)
        exact je hm (hS4.sel [0] rfl)
      refine pu ?_
      refine nil (t_thenR [(7, iv (IntKind.wrap .i64 (Int.tdiv y3 y4))), (32, .bool false)] ⟨rfl, rfl, trivial⟩ fun J => ?_)
      refine cnd (b := false) rfl (fun h => nomatch h) (fun _ => ?_)
      exact je hm (hS4.sel [0] rfl)
    refine pu ?_
    rcases bc hm with ⟨hb8, hm⟩ | ⟨hb8, hm⟩
    · refine pu ?_
      refine nil (t_thenR [(7, iv (IntKind.wrap .i64 (Int.tdiv y3 y4))), (32, .bool (decide (y2 < 0)))] ⟨rfl, rfl, trivial⟩ fun J => ?_)
      refine cd hm ?_ ?_ <;> intro hb9 hm
      · exact je hm (hS4.sel [0] rfl)
      exact je hm (hS4.sel [0] rfl)
    refine pu ?_
    refine nil (t_thenR [(7, iv (IntKind.wrap .i64 (Int.tdiv y3 y4))), (32, .bool false)] ⟨rfl, rfl, trivial⟩ fun J => ?_)
    refine cnd (b := false) rfl (fun h => nomatch h) (fun _ => ?_)
    exact je hm (hS4.sel [0] rfl)
  rintro _ w5 ⟨T5, x1, J, hm, rfl, hS5, im5⟩
  refine sq2 (pu ?_)
  refine cB cf50 hm (ref01_Cut_sim (hS5.bun [0] [] rfl)) ?_
  rintro y5 _ T6 w6 im6 ⟨rfl, hS6, _⟩ hm
  exact re hm (hS6.sel [0] rfl)

theorem ref01_DivU_sim {p0 p1} (hS : Sep g T0 w0 [starL R])  : ∀ r, ref01_DivU p0 p1 = some r →
    Calls Tryz.prog 120 #[.int .u32 p0, .int .u32 p1] w0 (RetS T0 w0 fun T w v => v = .int .u32 r ∧ Sep g T w (R ++ []) ∧ True) := by
  intro r hm
  refine enter Tryz.func120 rfl Tryz.ntmps120 rfl fun J => ?_
  unfold ref01_DivU at hm
  refine sq2 (pn ?_)
  refine sq2 (sq2 (cd hm ?_ ?_)) <;> intro hb1 hm
  · exact sq2 (re hm (hS.sel [0] rfl))
  refine pn ?_
  refine sq2 ?_
  obtain ⟨_, hz1, hm⟩ := bindS hm
  have hz1 := nz_some hz1
  refine pu ?_
  exact pv (r_iq rfl rfl hz1) (re hm (hS.sel [0] rfl))

theorem ref01_Rem_sim {p0 p1} (hS : Sep g T0 w0 [starL R])  : ∀ r, ref01_Rem p0 p1 = some r →
    Calls Tryz.prog 121 #[.int .u32 p0, .int .u32 p1] w0 (RetS T0 w0 fun T w v => v = .int .u32 r ∧ Sep g T w (R ++ []) ∧ True) := by
  intro r hm
  refine enter Tryz.func121 rfl Tryz.ntmps121 rfl fun J => ?_
  unfold ref01_Rem at hm
  refine sq2 (pn ?_)
  refine sq2 (pu ?_)
  refine cB cf79 hm (ref01_Signed_sim (hS.bun [0] [] rfl)) ?_
  rintro y1 _ T1 w1 im1 ⟨rfl, hS1, _⟩ hm
  refine pu ?_
  refine cB cf79 hm (ref01_Signed_sim (hS1.bun [0] [] rfl)) ?_
  rintro y2 _ T2 w2 im2 ⟨rfl, hS2, _⟩ hm
  refine pn ?_
  refine sq2 (sq2 (cd hm ?_ ?_)) <;> intro hb1 hm
  · exact sq2 (re hm (hS2.sel [0] rfl))
  refine pn ?_
  refine sq2 (pu ?_)
  refine cB cf180 hm (ref01_abs_sim (hS2.bun [0] [] rfl)) ?_
  rintro y3 _ T3 w3 im3 ⟨rfl, hS3, _⟩ hm
  refine pu ?_
  refine cB cf180 hm (ref01_abs_sim (hS3.bun [0] [] rfl)) ?_
  rintro y4 _ T4 w4 im4 ⟨rfl, hS4, _⟩ hm
  obtain ⟨_, hz1, hm⟩ := bindS hm
  have hz1 := nz_some hz1
  refine pv (r_irm rfl rfl hz1) (pn ?_)
  refine cutJ hm (fun kk1 a w5 => ∃ T5 x1, JR (nf 26) g T4 w4 a w5 T5 (kk1 x1 = some r) [(7, iv x1)] [starL R]) (fun kk1 hm => ?_) ?_
  · refine sq2 (cd hm ?_ ?_) <;> intro hb2 hm
    · exact je hm (hS4.sel [0] rfl)
    exact je hm (hS4.sel [0] rfl)
  rintro _ w5 ⟨T5, x1, J, hm, rfl, hS5, im5⟩
  refine sq2 (pu ?_)
  refine cB cf50 hm (ref01_Cut_sim (hS5.bun [0] [] rfl)) ?_
  rintro y5 _ T6 w6 im6 ⟨rfl, hS6, _⟩ hm
  exact re hm (hS6.sel [0] rfl)

theorem ref01_RemU_sim {p0 p1} (hS : Sep g T0 w0 [starL R])  : ∀ r, ref01_RemU p0 p1 = some r →
    Calls Tryz.prog 122 #[.int .u32 p0, .int .u32 p1] w0 (RetS T0 w0 fun T w v => v = .int .u32 r ∧ Sep g T w (R ++ []) ∧ True) := by
  intro r hm
  refine enter Tryz.func122 rfl Tryz.ntmps122 rfl fun J => ?_
  unfold ref01_RemU at hm
  refine sq2 (pn ?_)
  refine sq2 (sq2 (cd hm ?_ ?_)) <;> intro hb1 hm
  · exact sq2 (re hm (hS.sel [0] rfl))
  refine pn ?_
  refine sq2 ?_
  obtain ⟨_, hz1, hm⟩ := bindS hm
  have hz1 := nz_some hz1
  refine pu ?_
  exact pv (r_irm rfl rfl hz1) (re hm (hS.sel [0] rfl))

theorem ref03_part_sim {p0 p1 p2} (hS : Sep g T0 w0 [starL R])  : ∀ r, ref03_part p0 p1 p2 = some r →
    Calls Tryz.prog 89 #[iv p0, .int .u32 p1, .int .u32 p2] w0 (RetS T0 w0 fun T w v => v = .int .u32 r ∧ Sep g T w (R ++ []) ∧ True) := by
  intro r hm
  refine enter Tryz.func89 rfl Tryz.ntmps89 rfl fun J => ?_
  unfold ref03_part at hm
  refine sq2 (pn ?_)
  refine sq2 (sq2 (cd hm ?_ ?_)) <;> intro hb1 hm
  · refine sq2 (pu ?_)
    refine cB cf115 hm (ref01_Mul_sim (hS.bun [0] [] rfl)) ?_
    rintro y1 _ T1 w1 im1 ⟨rfl, hS1, _⟩ hm
    exact re hm (hS1.sel [0] rfl)
  refine pn ?_
  refine sq2 (sq2 (cd hm ?_ ?_)) <;> intro hb2 hm
  · refine sq2 (pu ?_)
    refine cB cf116 hm (ref01_High_sim (hS.bun [0] [] rfl)) ?_
    rintro y2 _ T2 w2 im2 ⟨rfl, hS2, _⟩ hm
    exact re hm (hS2.sel [0] rfl)
  refine pn ?_
  refine sq2 (sq2 (cd hm ?_ ?_)) <;> intro hb3 hm
  · refine sq2 (pu ?_)
    refine cB cf117 hm (ref01_HighSU_sim (hS.bun [0] [] rfl)) ?_
    rintro y3 _ T3 w3 im3 ⟨rfl, hS3, _⟩ hm
    exact re hm (hS3.sel [0] rfl)
  refine pn ?_
  refine sq2 (sq2 (cd hm ?_ ?_)) <;> intro hb4 hm
  · refine sq2 (pu ?_)
    refine cB cf118 hm (ref01_HighU_sim (hS.bun [0] [] rfl)) ?_
    rintro y4 _ T4 w4 im4 ⟨rfl, hS4, _⟩ hm
    exact re hm (hS4.sel [0] rfl)
  refine pn ?_
  refine sq2 (sq2 (cd hm ?_ ?_)) <;> intro hb5 hm
  · refine sq2 (pu ?_)
    refine cB cf119 hm (ref01_Div_sim (hS.bun [0] [] rfl)) ?_
    rintro y5 _ T5 w5 im5 ⟨rfl, hS5, _⟩ hm
    exact re hm (hS5.sel [0] rfl)
  refine pn ?_
  refine sq2 (sq2 (cd hm ?_ ?_)) <;> intro hb6 hm
  · refine sq2 (pu ?_)
    refine cB cf120 hm (ref01_DivU_sim (hS.bun [0] [] rfl)) ?_
    rintro y6 _ T6 w6 im6 ⟨rfl, hS6, _⟩ hm
    exact re hm (hS6.sel [0] rfl)
  refine pn ?_
  refine sq2 (sq2 (cd hm ?_ ?_)) <;> intro hb7 hm
  · refine sq2 (pu ?_)
    refine cB cf121 hm (ref01_Rem_sim (hS.bun [0] [] rfl)) ?_
    rintro y7 _ T7 w7 im7 ⟨rfl, hS7, _⟩ hm
    exact re hm (hS7.sel [0] rfl)
  refine pn ?_
  refine sq2 (pu ?_)
  refine cB cf122 hm (ref01_RemU_sim (hS.bun [0] [] rfl)) ?_
  rintro y8 _ T8 w8 im8 ⟨rfl, hS8, _⟩ hm
  exact re hm (hS8.sel [0] rfl)

theorem ref03_Reckon_sim {p0 p1 p2} (hS : Sep g T0 w0 [starL R])  : ∀ r, ref03_Reckon p0 p1 p2 = some r →
    Calls Tryz.prog 54 #[iv p0, .int .u32 p1, .int .u32 p2] w0 (RetS T0 w0 fun T w v => v = .int .u32 r ∧ Sep g T w (R ++ []) ∧ True) := by
  intro r hm
  refine enter Tryz.func54 rfl Tryz.ntmps54 rfl fun J => ?_
  unfold ref03_Reckon at hm
  refine sq2 (pn ?_)
  refine sq2 (bS (r := (rInt .i64)) (l := ([28, 31, 32, 33, 36, 37, 30, 34, 35] : List Int)) (css := [[iv 28], [iv 31], [iv 32], [iv 33], [iv 36], [iv 37], [iv 30], [iv 34], [iv 35]]) hS ⟨rfl, rfl, rfl, rfl, rfl, rfl, rfl, rfl, rfl, trivial⟩ ?_)
  intro w1 a1 n1 c1 im1 hS1
  refine pn ?_
  refine sq2 (pn ?_)
  refine cutJ hm (fun kk1 a w2 => ∃ T1 x1, JR (nf 76) g T0 w1 a w2 T1 (kk1 x1 = some r) [(1, .int .u32 p1), (2, .int .u32 p2), (8, iv x1)] [starL R]) (fun kk1 hm => ?_) ?_
  · refine sq2 (pu ?_)
    refine fkN (d := 16) (c := ((decide (19 ≤ p0)) && (decide (p0 ≤ 27)))) 3 [(0, iv p0), (1, .int .u32 p1), (2, .int .u32 p2), (7, .slice a1 n1 c1), (8, iv p0)] rfl (fun hk => ?_) fun J => ?_
    · rcases Bool.eq_false_or_eq_true (decide (19 ≤ p0)) with hb1 | hb1
      · exact  gT (d0 := 13) rfl rfl hb1 (pv (r_mi rfl) (gT (d0 := 13) rfl rfl hb1 (pv (r_ib rfl rfl rfl) (pv (r_pkt rfl hb1 rfl) (wlR (fun J => hk J _ (by rw [hb1]; rfl)) ⟨rfl, rfl, rfl, rfl, rfl, rfl, trivial⟩)))))
      exact  gF2 (d0 := 13) rfl rfl (by rw [hb1]; rfl) (pv (r_pkf rfl hb1 rfl) (wlR (fun J => hk J _ (by rw [hb1]; rfl)) ⟨rfl, rfl, rfl, rfl, rfl, rfl, trivial⟩))
    refine cd hm ?_ ?_ <;> intro hb2 hm
    · obtain ⟨u1, hx1, hm⟩ := bindS hm
      exact je hm (hS1.sel [1] rfl)
    exact je hm (hS1.sel [1] rfl)
  rintro _ w2 ⟨T1, x1, J, hm, rfl, hS2, im2⟩
  refine sq2 (sq2 (cd hm ?_ ?_)) <;> intro hb3 hm
  · refine sq2 (pu ?_)
    refine cB cf82 hm (ref01_Add_sim (hS2.bun [0] [] rfl)) ?_
    rintro y1 _ T2 w3 im3 ⟨rfl, hS3, _⟩ hm
    exact re hm (hS3.sel [0] rfl)
  refine pn ?_
  refine sq2 (sq2 (cd hm ?_ ?_)) <;> intro hb4 hm
  · refine sq2 (pu ?_)
    refine cB cf83 hm (ref01_Sub_sim (hS2.bun [0] [] rfl)) ?_
    rintro y2 _ T3 w4 im4 ⟨rfl, hS4, _⟩ hm
    exact re hm (hS4.sel [0] rfl)
  refine pn ?_
  refine sq2 (sq2 (cd hm ?_ ?_)) <;> intro hb5 hm
  · refine sq2 (pu ?_)
    refine cB cf84 hm (ref01_Left_sim (hS2.bun [0] [] rfl)) ?_
    rintro y3 _ T4 w5 im5 ⟨rfl, hS5, _⟩ hm
    exact re hm (hS5.sel [0] rfl)
  refine pn ?_
  refine sq2 (sq2 (cd hm ?_ ?_)) <;> intro hb6 hm
  · refine sq2 (pu ?_)
    refine cB cf85 hm (ref01_Less_sim (hS2.bun [0] [] rfl)) ?_
    rintro y4 _ T5 w6 im6 ⟨rfl, hS6, _⟩ hm
    exact re hm (hS6.sel [0] rfl)
  refine pn ?_
  refine sq2 (sq2 (cd hm ?_ ?_)) <;> intro hb7 hm
  · refine sq2 (pu ?_)
    refine cB cf86 hm (ref01_LessU_sim (hS2.bun [0] [] rfl)) ?_
    rintro y5 _ T6 w7 im7 ⟨rfl, hS7, _⟩ hm
    exact re hm (hS7.sel [0] rfl)
  refine pn ?_
  refine sq2 (sq2 (cd hm ?_ ?_)) <;> intro hb8 hm
  · exact sq2 (re hm (hS2.sel [0] rfl))
  refine pn ?_
  refine sq2 (sq2 (cd hm ?_ ?_)) <;> intro hb9 hm
  · refine sq2 (pu ?_)
    refine cB cf87 hm (ref01_Right_sim (hS2.bun [0] [] rfl)) ?_
    rintro y6 _ T7 w8 im8 ⟨rfl, hS8, _⟩ hm
    exact re hm (hS8.sel [0] rfl)
  refine pn ?_
  refine sq2 (sq2 (cd hm ?_ ?_)) <;> intro hb10 hm
  · refine sq2 (pu ?_)
    refine cB cf88 hm (ref01_RightS_sim (hS2.bun [0] [] rfl)) ?_
    rintro y7 _ T8 w9 im9 ⟨rfl, hS9, _⟩ hm
    exact re hm (hS9.sel [0] rfl)
  refine pn ?_
  refine sq2 (sq2 (cd hm ?_ ?_)) <;> intro hb11 hm
  · exact sq2 (re hm (hS2.sel [0] rfl))
  refine pn ?_
  refine sq2 (sq2 (cd hm ?_ ?_)) <;> intro hb12 hm
  · refine sq2 (pu ?_)
    refine nil (t_thenR [(6, .int .u32 (bits .and .u32 p1 p2))] ⟨rfl, trivial⟩ fun J => ?_)
    exact re hm (hS2.sel [0] rfl)
  refine pn ?_
  refine sq2 (pu ?_)
  refine cB cf89 hm (ref03_part_sim (hS2.bun [0] [] rfl)) ?_
  rintro y8 _ T9 w10 im10 ⟨rfl, hS10, _⟩ hm
  refine pu ?_
  refine nil (t_thenR [(6, .int .u32 y8)] ⟨rfl, trivial⟩ fun J => ?_)
  exact re hm (hS10.sel [0] rfl)

theorem ref03_Machine_do_sim {p0 : ref03Machine} {b_p0 o_p0 : Nat} {H_p0 : List Value → Assn} {a1 c1 a2 n1 c2 a3 c3 a4 n2 c4 a5 n3 c5} {p1 : GInst} (hS : Sep g T0 w0 ([starL R] ++ gref03Machine p0 H_p0 a1 c1 a2 n1 c2 a3 c3 a4 n2 c4 a5 n3 c5)) (hL_p0 : Ln b_p0 o_p0 H_p0) (h1 : SlR (rInt .u32) T0 w0 (sv a1 p0.Code c1) p0.Code) (h2 : SlR (rInt .u32) T0 w0 (sv a3 p0.Inputs c3) p0.Inputs) : ∀ r, ref03_Machine_do p0 p1 = some r →
    Calls Tryz.prog 31 #[pt b_p0 o_p0, .agg (cGInst p1).toArray] w0 (RetS T0 w0 fun T w v => ∃ a26 c26 a27 c27 a28 n6 c28, v = .bool r.1 ∧ Sep g T w (R ++ gref03Machine r.2 H_p0 a26 c26 a2 n1 c2 a27 c27 a4 n2 c4 a28 n6 c28) ∧ SlR (rInt .u32) T w (sv a26 r.2.Code c26) r.2.Code ∧ SlR (rInt .u32) T w (sv a27 r.2.Inputs c27) r.2.Inputs ∧ True) := by
  intro r hm
  refine enter Tryz.func31 rfl Tryz.ntmps31 rfl fun J => ?_
  unfold ref03_Machine_do at hm
  refine sq2 (bX (cGInst p1) hS ?_)
  intro w1 b1 im1 hS1
  refine pn ?_
  refine sq2 ?_
  obtain ⟨u1, hx1, hm⟩ := bindS hm
  obtain ⟨u2, hx2, hm⟩ := bindS hm
  refine rqS hS1 (pn ?_)
  intro w2 T1 im2 hS2
  refine pn ?_
  refine sq2 (pu ?_)
  refine cB cf48 hm (ref03_wrap_sim (hS2.bun (nrow 0 6) [] rfl)) ?_
  rintro y1 _ T2 w3 im3 ⟨rfl, hS3, _⟩ hm
  refine pn ?_
  refine sq2 (pu ?_)
  refine cB cf48 hm (ref03_wrap_sim (hS3.bun (nrow 0 6) [] rfl)) ?_
  rintro y2 _ T3 w4 im4 ⟨rfl, hS4, _⟩ hm
  refine pu ?_
  refine nil (t_thenR [(0, pt b_p0 o_p0), (3, pt b1 0), (5, .int .u32 u1), (6, .int .u32 u2), (7, iv y1), (8, iv y2)] ⟨rfl, rfl, rfl, rfl, rfl, rfl, trivial⟩ fun J => ?_)
  refine cutJ hm (fun kk1 a w5 => ∃ (T4 : _) (x5 : ref03Machine) (a6 : _) (n4 : _) (c6 : _) (x4 : _) (a7 : _) (c7 : _) (a8 : _) (c8 : _), JR (nf 165) g T3 w4 a w5 T4 (kk1 x4 x5 = some r) [(0, pt b_p0 o_p0), (8, iv x4)] ([starL R] ++ gref03Machine x5 H_p0 a7 c7 a2 n1 c2 a8 c8 a4 n2 c4 a6 n4 c6) ∧ SlR (rInt .u32) T4 w5 (sv a7 x5.Code c7) x5.Code ∧ SlR (rInt .u32) T4 w5 (sv a8 x5.Inputs c8) x5.Inputs) (fun kk1 hm => ?_) ?_
  · refine sq2 (cd hm ?_ ?_) <;> intro hb1 hm
    · refine rsS [0, 0, 1, 0, 1, 2, 2] [0, 1, 2, 3, 4, 5, 6] hS4 fun w6 im6 hS5 => ?_
      obtain ⟨y3, hx5, hm⟩ := bindS hm
      refine sS [(2, iv p1.Rd)] cf50 (ref01_Cut_sim (hS5.bun (nrow 1 5 ++ [0]) [] rfl) _ hx5) ?_
      rintro _ T5 w7 im7 ⟨rfl, hS6, _⟩
      refine pu ?_
      obtain ⟨y4, hx6, hm⟩ := bindS hm
      refine sS [] cf49 (ref03_Machine_set_sim (hS6.bun [0, 5] (nrow 1 4) rfl) hL_p0 (h1.mono ch) (h2.mono ch) _ hx6) ?_
      rintro _ T6 w8 im8 ⟨a9, c9, a10, c10, rfl, hS7, h5, h6, _⟩
      refine pu ?_
      exact je hm (hS7.sel [0, 2, 3, 4, 5] rfl)
    refine sq2 (cd hm ?_ ?_) <;> intro hb2 hm
    · refine rsS [0, 0, 1, 0, 0, 0, 1, 0, 1, 0, 2, 2] [0, 1, 2, 3, 4, 5, 6, 7, 8, 9, 10, 11] hS4 fun w9 im9 hS8 => ?_
      obtain ⟨y5, hx7, hm⟩ := bindS hm
      refine sS [(2, iv p1.Rd)] cf50 (ref01_Cut_sim (hS8.bun (nrow 1 5 ++ [0]) [] rfl) _ hx7) ?_
      rintro _ T7 w10 im10 ⟨rfl, hS9, _⟩
      refine pu ?_
      obtain ⟨y6, hx8, hm⟩ := bindS hm
      refine sS [] cf49 (ref03_Machine_set_sim (hS9.bun [0, 5] (nrow 1 4) rfl) hL_p0 (h1.mono ch) (h2.mono ch) _ hx8) ?_
      rintro _ T8 w11 im11 ⟨a11, c11, a12, c12, rfl, hS10, h7, h8, _⟩
      refine pu ?_
      exact je hm (hS10.sel [0, 2, 3, 4, 5] rfl)
    refine sq2 (cd hm ?_ ?_) <;> intro hb3 hm
    · refine sq2 (pu ?_)
      refine cB cf49 hm (ref03_Machine_set_sim (hS4.bun [0, 1] (nrow 2 4) rfl) hL_p0 (h1.mono ch) (h2.mono ch)) ?_
      rintro y7 _ T9 w12 im12 ⟨a13, c13, a14, c14, rfl, hS11, h9, h10, _⟩ hm
      refine pn ?_
      refine rsS [0, 0, 0, 1, 0, 1, 0, 2, 0] [0, 1, 2, 3, 4, 5, 6, 7, 8] hS11 fun w13 im13 hS12 => ?_
      obtain ⟨y8, hx10, hm⟩ := bindS hm
      refine sS [] cf48 (ref03_wrap_sim (hS12.bun (nrow 1 5 ++ [0]) [] rfl) _ hx10) ?_
      rintro _ T10 w14 im14 ⟨rfl, hS13, _⟩
      refine pu ?_
      exact je hm (hS13.sel (nrow 0 5) rfl)
    refine sq2 (cd hm ?_ ?_) <;> intro hb4 hm
    · refine sq2 (pu ?_)
      refine cB cf49 hm (ref03_Machine_set_sim (hS4.bun [1] (nrow 2 4) rfl) hL_p0 (h1.mono ch) (h2.mono ch)) ?_
      rintro y9 _ T11 w15 im15 ⟨a15, c15, a16, c16, rfl, hS14, h11, h12, _⟩ hm
      exact je hm (hS14.sel (nrow 0 5) rfl)
    refine sq2 (cd hm ?_ ?_) <;> intro hb5 hm
    · refine sq2 (pu ?_)
      refine cB cf51 hm (ref03_taken_sim (hS4.bun (nrow 0 6) [] rfl)) ?_
      rintro y10 _ T12 w16 im16 ⟨rfl, hS15, _⟩ hm
      refine cd hm ?_ ?_ <;> intro hb6 hm
      · refine rsS [0, 0, 0, 1, 0, 1, 0, 2, 0] [0, 1, 2, 3, 4, 5, 6, 7, 8] hS15 fun w17 im17 hS16 => ?_
        obtain ⟨y11, hx13, hm⟩ := bindS hm
        refine sS [] cf48 (ref03_wrap_sim (hS16.bun (nrow 1 5 ++ [0]) [] rfl) _ hx13) ?_
        rintro _ T13 w18 im18 ⟨rfl, hS17, _⟩
        refine pu ?_
        exact je hm (hS17.sel (nrow 0 5) rfl)
      exact je hm (hS15.sel (nrow 1 5) rfl)
    refine sq2 (cd hm ?_ ?_) <;> intro hb7 hm
    · refine sq2 (pu ?_)
      refine cB cf52 hm (ref03_Machine_load_sim (hS4.bun [0, 1] (nrow 2 4) rfl) hL_p0 (h1.mono ch) (h2.mono ch)) ?_
      rintro y12 _ T14 w19 im19 ⟨rfl, hS18, _⟩ hm
      refine pu ?_
      refine nil (t_thenR [(0, pt b_p0 o_p0), (3, pt b1 0), (8, iv y2), (9, .int .u32 y12.1), (10, .bool y12.2)] ⟨rfl, rfl, rfl, rfl, rfl, trivial⟩ fun J => ?_)
      refine sq2 (sq2 (cd hm ?_ ?_)) <;> intro hb8 hm
      · exact sq2 (re hm (hS18.sel (nrow 1 5) rfl))
      refine pn ?_
      refine cB cf49 hm (ref03_Machine_set_sim (hS18.bun [1] (nrow 2 4) rfl) hL_p0 (h1.mono ch) (h2.mono ch)) ?_
      rintro y13 _ T15 w20 im20 ⟨a17, c17, a18, c18, rfl, hS19, h13, h14, _⟩ hm
      exact je hm (hS19.sel (nrow 0 5) rfl)
    refine sq2 (cd hm ?_ ?_) <;> intro hb9 hm
    · refine sq2 (pu ?_)
      refine cB cf53 hm (ref03_Machine_store_sim (hS4.bun [1] (nrow 2 4) rfl) hL_p0 (h1.mono ch) (h2.mono ch)) ?_
      rintro y14 _ T16 w21 im21 ⟨a19, c19, a20, c20, a21, n5, c21, rfl, hS20, h15, h16, _⟩ hm
      refine pu ?_
      refine nil (t_thenR [(0, pt b_p0 o_p0), (8, iv y2), (137, .bool (!y14.1))] ⟨rfl, rfl, rfl, trivial⟩ fun J => ?_)
      refine cd hm ?_ ?_ <;> intro hb10 hm
      · exact sq2 (re hm (hS20.sel (nrow 0 5) rfl))
      exact je hm (hS20.sel (nrow 0 5) rfl)
    refine sq2 (cd hm ?_ ?_) <;> intro hb11 hm
    · refine rsS [0, 0, 1, 0, 1, 0, 0, 1, 2, 2, 2] [0, 1, 2, 3, 4, 5, 6, 7, 8, 9, 10] hS4 fun w22 im22 hS21 => ?_
      obtain ⟨y15, hx17, hm⟩ := bindS hm
      refine sS [(4, iv p1.Op), (2, iv p1.Rd)] cf50 (ref01_Cut_sim (hS21.bun (nrow 1 5 ++ [0]) [] rfl) _ hx17) ?_
      rintro _ T17 w23 im23 ⟨rfl, hS22, _⟩
      refine pu ?_
      obtain ⟨y16, hx18, hm⟩ := bindS hm
      refine sS [(2, iv p1.Rd)] cf54 (ref03_Reckon_sim (hS22.bun (nrow 0 6) [] rfl) _ hx18) ?_
      rintro _ T18 w24 im24 ⟨rfl, hS23, _⟩
      refine pu ?_
      obtain ⟨y17, hx19, hm⟩ := bindS hm
      refine sS [] cf49 (ref03_Machine_set_sim (hS23.bun [0, 5] (nrow 1 4) rfl) hL_p0 (h1.mono ch) (h2.mono ch) _ hx19) ?_
      rintro _ T19 w25 im25 ⟨a22, c22, a23, c23, rfl, hS24, h17, h18, _⟩
      refine pu ?_
      exact je hm (hS24.sel [0, 2, 3, 4, 5] rfl)
    refine rsS [0, 0, 1, 0, 1, 0, 0, 2, 2] [0, 1, 2, 3, 4, 5, 6, 7, 8] hS4 fun w26 im26 hS25 => ?_
    obtain ⟨y18, hx20, hm⟩ := bindS hm
    refine sS [(2, iv p1.Rd)] cf54 (ref03_Reckon_sim (hS25.bun (nrow 1 5 ++ [0]) [] rfl) _ hx20) ?_
    rintro _ T20 w27 im27 ⟨rfl, hS26, _⟩
    refine pu ?_
    obtain ⟨y19, hx21, hm⟩ := bindS hm
    refine sS [] cf49 (ref03_Machine_set_sim (hS26.bun [0, 5] (nrow 1 4) rfl) hL_p0 (h1.mono ch) (h2.mono ch) _ hx21) ?_
    rintro _ T21 w28 im28 ⟨a24, c24, a25, c25, rfl, hS27, h19, h20, _⟩
    refine pu ?_
    exact je hm (hS27.sel [0, 2, 3, 4, 5] rfl)
  rintro _ w5 ⟨T4, x5, a6, n4, c6, x4, a7, c7, a8, c8, ⟨J, hm, rfl, hS28, im5⟩, h3, h4⟩
  refine sq2 (sB 1 4 hL_p0 hS28 ?_)
  intro w29 im29 hS29
  refine pn ?_
  exact sq2 (re hm (hS29.sel (nrow 0 5) rfl))

theorem ref03_Machine_Step_sim {p0 : ref03Machine} {b_p0 o_p0 : Nat} {H_p0 : List Value → Assn} {a1 c1 a2 n1 c2 a3 c3 a4 n2 c4 a5 n3 c5} (hS : Sep g T0 w0 ([starL R] ++ gref03Machine p0 H_p0 a1 c1 a2 n1 c2 a3 c3 a4 n2 c4 a5 n3 c5)) (hL_p0 : Ln b_p0 o_p0 H_p0) (h1 : SlR (rInt .u32) T0 w0 (sv a1 p0.Code c1) p0.Code) (h2 : SlR (rInt .u32) T0 w0 (sv a3 p0.Inputs c3) p0.Inputs) : ∀ r, ref03_Machine_Step p0 = some r →
    Calls Tryz.prog 17 #[pt b_p0 o_p0] w0 (RetS T0 w0 fun T w v => ∃ a9 c9 a10 c10 a11 n5 c11, v = .tuple #[] ∧ Sep g T w (R ++ gref03Machine r H_p0 a9 c9 a2 n1 c2 a10 c10 a4 n2 c4 a11 n5 c11) ∧ SlR (rInt .u32) T w (sv a9 r.Code c9) r.Code ∧ SlR (rInt .u32) T w (sv a10 r.Inputs c10) r.Inputs ∧ True) := by
  intro r hm
  refine enter Tryz.func17 rfl Tryz.ntmps17 rfl fun J => ?_
  unfold ref03_Machine_Step at hm
  refine sq2 (sq2 (cd hm ?_ ?_)) <;> intro hb1 hm
  · exact re hm (hS.sel (nrow 0 5) rfl)
  refine pn ?_
  refine sq2 (sq2 (rqS hS (pu ?_)))
  rcases bc hm with ⟨hb2, hm⟩ | ⟨hb2, hm⟩
  · refine pn ?_
    intro w11 T4 im11 hS11
    refine pn ?_
    refine cnd (b := true) rfl (fun _ => ?_) (fun h => nomatch h)
    refine sq2 (sB 1 9 hL_p0 hS11 ?_)
    intro w12 im12 hS12
    refine nil (t_thenR [] trivial fun J => ?_)
    exact re hm (hS12.sel (nrow 0 5) rfl)
  refine pn ?_
  intro w1 T1 im1 hS1
  refine cd hm ?_ ?_ <;> intro hb3 hm
  · refine sq2 (sB 1 9 hL_p0 hS1 ?_)
    intro w2 im2 hS2
    refine nil (t_thenR [] trivial fun J => ?_)
    exact re hm (hS2.sel (nrow 0 5) rfl)
  refine pn ?_
  refine sq2 (rtS [0, 0, 0, 1, 0, 0, 0, 1, 0, 0, 1, 2, 0, 0, 0, 2, 2, 0] [0, 1, 2, 3, 4, 5, 6, 7, 8, 9, 10, 11, 12, 13, 14, 15, 16, 17] hS1 fun w3 im3 hS3 => ?_)
  obtain ⟨u1, hx1, hm⟩ := bindS hm
  obtain ⟨y1, hx2, hm⟩ := bindS hm
  refine tF [11, 15] ?_
  refine ⟨?_, ?_, trivial⟩
  · refine brW [12, 13, 14, 15, 16, 17] [0, 0, 0] ?_
    refine oS cf30 (ref02_Decode_sim (hS3.bun (nrow 0 5) [] rfl) _ hx2) ?_
    rintro _ T2 w4 im4 ⟨rfl, hS4, _⟩
    refine t1W [15] [16, 17] [] ?_
    refine oaL [iv 0, iv 0, iv 0, iv 0, iv 0] hS4 ?_
    intro w5 b1 im5 hS5
    refine t1W [16] [17] [] ?_
    refine osT 0 hS5 ?_
    intro w6 im6 hS6
    refine pu ?_
    refine te (t_thenR [(0, pt b_p0 o_p0), (2, pt b1 0), (3, iv y1.2)] ⟨rfl, rfl, rfl, trivial⟩ fun J => ?_)
    refine sq2 (sq2 (pu ?_))
    rcases bc hm with ⟨hb4, hm⟩ | ⟨hb4, hm⟩
    · refine pn ?_
      refine cnd (b := true) rfl (fun _ => ?_) (fun h => nomatch h)
      refine sq2 (sB 2 9 hL_p0 hS6 ?_)
      intro w10 im10 hS10
      exact re hm (hS10.sel (nrow 1 5) rfl)
    refine pu ?_
    refine cB cf31 hm (ref03_Machine_do_sim (hS6.bun [1] (nrow 2 4) rfl) hL_p0 (h1.mono ch) (h2.mono ch)) ?_
    rintro y2 _ T3 w7 im7 ⟨a6, c6, a7, c7, a8, n4, c8, rfl, hS7, h3, h4, _⟩ hm
    refine cd hm ?_ ?_ <;> intro hb5 hm
    · refine sq2 (sB 1 9 hL_p0 hS7 ?_)
      intro w8 im8 hS8
      exact re hm (hS8.sel (nrow 0 5) rfl)
    refine pn ?_
    refine sB 1 8 hL_p0 hS7 ?_
    intro w9 im9 hS9
    have hm := oI hm; subst hm
    refine pn ?_
    exact end0 rfl ⟨_, rfl, _, ch, ⟨_, _, _, _, _, _, _, rfl, (hS9.sel (nrow 0 5) rfl).unb, (h3.mono im9), (h4.mono im9), trivial⟩⟩
  refine brW [11, 12, 13, 14, 16, 17] [] ?_
  refine oaL [iv 0, iv 0, iv 0, iv 0, iv 0] hS3 ?_
  intro w4 b1 im4 hS4
  refine t1W [11] [12, 13, 14, 16, 17] [0, 0, 0] ?_
  refine oS cf30 (ref02_Decode_sim (hS4.bun (nrow 0 6) [] rfl) _ hx2) ?_
  rintro _ T2 w5 im5 ⟨rfl, hS5, _⟩
  refine t1W [16] [17] [] ?_
  refine osT 0 hS5 ?_
  intro w6 im6 hS6
  refine pu ?_
  refine te (t_thenR [(0, pt b_p0 o_p0), (2, pt b1 0), (3, iv y1.2)] ⟨rfl, rfl, rfl, trivial⟩ fun J => ?_)
  refine sq2 (sq2 (pu ?_))
  rcases bc hm with ⟨hb4, hm⟩ | ⟨hb4, hm⟩
  · refine pn ?_
    refine cnd (b := true) rfl (fun _ => ?_) (fun h => nomatch h)
    refine sq2 (sB 2 9 hL_p0 hS6 ?_)
    intro w10 im10 hS10
    exact re hm (hS10.sel (nrow 1 5) rfl)
  refine pu ?_
  refine cB cf31 hm (ref03_Machine_do_sim (hS6.bun [1] (nrow 2 4) rfl) hL_p0 (h1.mono ch) (h2.mono ch)) ?_
  rintro y2 _ T3 w7 im7 ⟨a6, c6, a7, c7, a8, n4, c8, rfl, hS7, h3, h4, _⟩ hm
  refine cd hm ?_ ?_ <;> intro hb5 hm
  · refine sq2 (sB 1 9 hL_p0 hS7 ?_)
    intro w8 im8 hS8
    exact re hm (hS8.sel (nrow 0 5) rfl)
  refine pn ?_
  refine sB 1 8 hL_p0 hS7 ?_
  intro w9 im9 hS9
  have hm := oI hm; subst hm
  refine pn ?_
  exact end0 rfl ⟨_, rfl, _, ch, ⟨_, _, _, _, _, _, _, rfl, (hS9.sel (nrow 0 5) rfl).unb, (h3.mono im9), (h4.mono im9), trivial⟩⟩

theorem law31_run_sim {p0 : ref03Machine} {b_p0 o_p0 : Nat} {H_p0 : List Value → Assn} {a1 c1 a2 n1 c2 a3 c3 a4 n2 c4 a5 n3 c5 p1} {p2 : List Int} {a6 c6} (hS : Sep g T0 w0 ([starL R] ++ gref03Machine p0 H_p0 a1 c1 a2 n1 c2 a3 c3 a4 n2 c4 a5 n3 c5)) (hL_p0 : Ln b_p0 o_p0 H_p0) (h1 : SlR (rInt .u32) T0 w0 (sv a1 p0.Code c1) p0.Code) (h2 : SlR (rInt .u32) T0 w0 (sv a3 p0.Inputs c3) p0.Inputs) (h3 : SlR (rInt .i64) T0 w0 (sv a6 p2 c6) p2) : ∀ r, law31_run p0 p1 p2 = some r →
    Calls Tryz.prog 8 #[pt b_p0 o_p0, iv p1, sv a6 p2 c6] w0 (RetS T0 w0 fun T w v => ∃ a20 c20 a21 c21 a22 n9 c22 a23 n10 c23, v = iv r.1 ∧ Sep g T w (R ++ gref03Machine r.2 H_p0 a20 c20 a2 n1 c2 a21 c21 a22 n9 c22 a23 n10 c23) ∧ SlR (rInt .u32) T w (sv a20 r.2.Code c20) r.2.Code ∧ SlR (rInt .u32) T w (sv a21 r.2.Inputs c21) r.2.Inputs ∧ True) := by
  intro r hm
  refine enter Tryz.func8 rfl Tryz.ntmps8 rfl fun J => ?_
  unfold law31_run at hm
  refine sq2 (pn ?_)
  refine sq2 (pn ?_)
  refine sq2 (pn ?_)
  refine sq2 (lpJ hm (fun bd1 o1 m a w1 => ∃ (T1 : _) (x6 : ref03Machine) (a7 : _) (n4 : _) (c7 : _) (a8 : _) (n5 : _) (c8 : _) (x4 : _) (x5 : _) (a9 : _) (c9 : _) (a10 : _) (c10 : _), JR (nf 70) g T0 w0 a w1 T1 (loopM bd1 m (x4, x5, x6) = some o1) [(0, pt b_p0 o_p0), (1, iv p1), (2, sv a6 p2 c6), (7, iv x4), (8, iv x5)] ([starL R] ++ gref03Machine x6 H_p0 a9 c9 a2 n1 c2 a10 c10 a7 n4 c7 a8 n5 c8) ∧ SlR (rInt .u32) T1 w1 (sv a9 x6.Code c9) x6.Code ∧ SlR (rInt .u32) T1 w1 (sv a10 x6.Inputs c10) x6.Inputs) (fun _ _ h => je h (hS.sel (nrow 0 5) rfl)) ?_)
  rintro bd1 hbd1 o1 hq1 _ _ w1 ⟨T1, x6, a7, n4, c7, a8, n5, c8, x4, x5, a9, c9, a10, c10, ⟨J, ho1, rfl, hS1, im1⟩, h4, h5⟩
  obtain ⟨m1, z1, rfl, hm, hn1⟩ := lrE ho1 hbd1
  refine sq2 (sq2 (pu ?_))
  refine fkN (d := 21) (c := ((x6.State == 0) && (decide (x6.Steps < p1)))) 7 [(0, pt b_p0 o_p0), (1, iv p1), (2, sv a6 p2 c6), (7, iv x4), (8, iv x5)] rfl (fun hk => ?_) fun J => ?_
  · rcases Bool.eq_false_or_eq_true (x6.State == 0) with hb1 | hb1
    · exact  gT (d0 := 14) rfl rfl hb1 (pv (r_mp rfl) (gT (d0 := 14) rfl rfl hb1 (pv (r_nc rfl) (gT (d0 := 14) rfl rfl hb1 (pv (r_fa rfl underlying60 rfl sizeOf3 rfl) (gT (d0 := 14) rfl rfl hb1 (pv (r_ld rfl isAgg3 (hS1.cellB (i := 1) ⟨rfl, rfl⟩ hL_p0 (j := 8) rfl)) (gT (d0 := 14) rfl rfl hb1 (pv (r_mi rfl) (gT (d0 := 14) rfl rfl hb1 (pv (r_ib rfl rfl rfl) (pv (r_pkt rfl hb1 rfl) (wlR (fun J => hk J _ (by rw [hb1]; rfl)) ⟨rfl, rfl, rfl, rfl, rfl, rfl, trivial⟩)))))))))))))
    exact  gF6 (d0 := 14) rfl rfl (by rw [hb1]; rfl) (pv (r_pkf rfl hb1 rfl) (wlR (fun J => hk J _ (by rw [hb1]; rfl)) ⟨rfl, rfl, rfl, rfl, rfl, rfl, trivial⟩))
  refine cd hm ?_ ?_ <;> intro hb2 hm
  · refine pn ?_
    refine blk (cutJ hm (fun kk1 a w2 => ∃ T2 x7, JR (nf 70) g T1 w1 a w2 T2 (kk1 x7 = some z1) [(0, pt b_p0 o_p0), (1, iv p1), (2, sv a6 p2 c6), (7, iv x4), (8, iv x7)] ([starL R] ++ gref03Machine x6 H_p0 a9 c9 a2 n1 c2 a10 c10 a7 n4 c7 a8 n5 c8)) (fun kk1 hm => ?_) ?_)
    · refine lpJ hm (fun bd2 o2 m a w3 => ∃ T3 x8, JR (nf 70) g T1 w1 a w3 T3 (loopM bd2 m x8 = some o2) [(0, pt b_p0 o_p0), (1, iv p1), (2, sv a6 p2 c6), (7, iv x4), (8, iv x8)] ([starL R] ++ gref03Machine x6 H_p0 a9 c9 a2 n1 c2 a10 c10 a7 n4 c7 a8 n5 c8)) (fun _ _ h => je h (hS1.sel (nrow 0 5) rfl)) ?_
      rintro bd2 hbd2 o2 hq2 _ _ w3 ⟨T3, x8, J, ho2, rfl, hS2, im3⟩
      obtain ⟨m2, z2, rfl, hm, hn2⟩ := lrE ho2 hbd2
      refine sq2 (sq2 (rqS hS2 (pu ?_)))
      rcases bc hm with ⟨hb3, hm⟩ | ⟨hb3, hm⟩
      · obtain ⟨u1, hx1, hm⟩ := bindS hm
        refine pu ?_
        rcases bc hm with ⟨hb4, hm⟩ | ⟨hb4, hm⟩
        · refine pn ?_
          intro w5 T5 im5 hS4
          refine pn ?_
          refine cnd (b := true) rfl (fun _ => ?_) (fun h => nomatch h)
          refine pn ?_
          refine blk ?_
          exact lg hm hn2 (hS4.sel (nrow 0 5) rfl)
        obtain ⟨u2, hx2, hm⟩ := bindS hm
        obtain rfl : u1 = u2 := oI (hx1.symm.trans hx2)
        refine pn ?_
        intro w4 T4 im4 hS3
        refine cd hm ?_ ?_ <;> intro hb5 hm
        · refine pn ?_
          refine blk ?_
          exact lg hm hn2 (hS3.sel (nrow 0 5) rfl)
        have hm := brkE hm hn2 hq2
        exact je hm (hS3.sel (nrow 0 5) rfl)
      refine pn ?_
      intro w6 T6 im6 hS5
      refine pn ?_
      refine cnd (b := false) rfl (fun h => nomatch h) (fun _ => ?_)
      have hm := brkE hm hn2 hq2
      exact je hm (hS5.sel (nrow 0 5) rfl)
    rintro _ w2 ⟨T2, x7, J, hm, rfl, hS6, im2⟩
    refine cutJ hm (fun kk2 a w7 => ∃ (T7 : _) (x14 : ref03Machine) (a11 : _) (n6 : _) (c11 : _) (x12 : _) (x13 : _) (a12 : _) (c12 : _) (a13 : _) (c13 : _), JR (nf 70) g T2 w2 a w7 T7 (kk2 x12 x13 x14 = some z1) [(0, pt b_p0 o_p0), (1, iv p1), (2, sv a6 p2 c6), (7, iv x12), (8, iv x13)] ([starL R] ++ gref03Machine x14 H_p0 a12 c12 a2 n1 c2 a13 c13 a11 n6 c11 a8 n5 c8) ∧ SlR (rInt .u32) T7 w7 (sv a12 x14.Code c12) x14.Code ∧ SlR (rInt .u32) T7 w7 (sv a13 x14.Inputs c13) x14.Inputs) (fun kk2 hm => ?_) ?_
    · refine sq2 (rqS hS6 (pu ?_))
      rcases bc hm with ⟨hb8, hm⟩ | ⟨hb8, hm⟩
      · obtain ⟨u3, hx3, hm⟩ := bindS hm
        refine pn ?_
        intro w8 T8 im8 hS7
        refine cd hm ?_ ?_ <;> intro hb9 hm
        · refine sq2 (pu ?_)
          refine cB cf16 hm (ref03_Machine_Fail_sim (hS7.bun [0] (nrow 1 4) rfl) hL_p0 (h4.mono ch) (h5.mono ch)) ?_
          rintro y1 _ T9 w9 im9 ⟨a14, c14, a15, c15, a16, n7, c16, rfl, hS8, h8, h9, _⟩ hm
          refine pn ?_
          exact sq2 (je hm (hS8.sel (nrow 0 5) rfl))
        exact je hm (hS7.sel (nrow 0 5) rfl)
      refine pn ?_
      intro w10 T10 im10 hS9
      refine pn ?_
      refine cnd (b := false) rfl (fun h => nomatch h) (fun _ => ?_)
      exact je hm (hS9.sel (nrow 0 5) rfl)
    rintro _ w7 ⟨T7, x14, a11, n6, c11, x12, x13, a12, c12, a13, c13, ⟨J, hm, rfl, hS10, im7⟩, h6, h7⟩
    refine pu ?_
    refine cB cf17 hm (ref03_Machine_Step_sim (hS10.bun [0] (nrow 1 4) rfl) hL_p0 h6 h7) ?_
    rintro y2 _ T11 w11 im11 ⟨a17, c17, a18, c18, a19, n8, c19, rfl, hS11, h10, h11, _⟩ hm
    exact lg hm hn1 (hS11.sel (nrow 0 5) rfl)
  have hm := brkE hm hn1 hq1
  refine pn ?_
  exact sq2 (re hm (hS1.sel (nrow 0 5) rfl))

theorem law31_same_sim {p0 : GPlay} {a1 c1} {p1 : ref03Machine} {b_p1 o_p1 : Nat} {H_p1 : List Value → Assn} {a2 c2 a3 n1 c3 a4 c4 a5 n2 c5 a6 n3 c6 p2} (hS : Sep g T0 w0 ([starL R] ++ gref03Machine p1 H_p1 a2 c2 a3 n1 c3 a4 c4 a5 n2 c5 a6 n3 c6)) (h1 : SlR rGRecord T0 w0 (sv a1 p0.Log c1) p0.Log) (hL_p1 : Ln b_p1 o_p1 H_p1) (h2 : SlR (rInt .u32) T0 w0 (sv a2 p1.Code c2) p1.Code) (h3 : SlR (rInt .u32) T0 w0 (sv a4 p1.Inputs c4) p1.Inputs) : ∀ r, law31_same p0 p1 p2 = some r →
    Calls Tryz.prog 9 #[.agg (cGPlay p0 a1 c1).toArray, pt b_p1 o_p1, iv p2] w0 (RetS T0 w0 fun T w v => v = .bool r ∧ Sep g T w (R ++ gref03Machine p1 H_p1 a2 c2 a3 n1 c3 a4 c4 a5 n2 c5 a6 n3 c6) ∧ True) := by
  intro r hm
  refine enter Tryz.func9 rfl Tryz.ntmps9 rfl fun J => ?_
  unfold law31_same at hm
  refine sq2 (bX (cGPlay p0 a1 c1) hS ?_)
  intro w1 b1 im1 hS1
  refine pn ?_
  refine sq2 (sq2 (rqS hS1 (pu ?_)))
  rcases bc hm with ⟨hb1, hm⟩ | ⟨hb1, hm⟩
  · refine pn ?_
    intro w8 T7 im8 hS8
    refine t_thenR [(1, pt b_p1 o_p1), (3, pt b1 0), (49, .bool true)] ⟨rfl, rfl, rfl, trivial⟩ fun J => ?_
    refine cnd (b := true) rfl (fun _ => ?_) (fun h => nomatch h)
    exact sq2 (re hm (hS8.sel (nrow 1 5) rfl))
  refine pu ?_
  rcases bc hm with ⟨hb2, hm⟩ | ⟨hb2, hm⟩
  · refine pn ?_
    intro w7 T6 im7 hS7
    refine t_thenR [(1, pt b_p1 o_p1), (3, pt b1 0), (49, .bool true)] ⟨rfl, rfl, rfl, trivial⟩ fun J => ?_
    refine cnd (b := true) rfl (fun _ => ?_) (fun h => nomatch h)
    exact sq2 (re hm (hS7.sel (nrow 1 5) rfl))
  refine pu ?_
  rcases bc hm with ⟨hb3, hm⟩ | ⟨hb3, hm⟩
  · refine pn ?_
    intro w6 T5 im6 hS6
    refine t_thenR [(1, pt b_p1 o_p1), (3, pt b1 0), (49, .bool true)] ⟨rfl, rfl, rfl, trivial⟩ fun J => ?_
    refine cnd (b := true) rfl (fun _ => ?_) (fun h => nomatch h)
    exact sq2 (re hm (hS6.sel (nrow 1 5) rfl))
  refine pu ?_
  rcases bc hm with ⟨hb4, hm⟩ | ⟨hb4, hm⟩
  · refine pn ?_
    intro w5 T4 im5 hS5
    refine t_thenR [(1, pt b_p1 o_p1), (3, pt b1 0), (49, .bool true)] ⟨rfl, rfl, rfl, trivial⟩ fun J => ?_
    refine cnd (b := true) rfl (fun _ => ?_) (fun h => nomatch h)
    exact sq2 (re hm (hS5.sel (nrow 1 5) rfl))
  refine pn ?_
  intro w2 T1 im2 hS2
  refine t_thenR [(1, pt b_p1 o_p1), (3, pt b1 0), (49, .bool ((List.length p0.Log : Int) != (List.length p1.Log : Int)))] ⟨rfl, rfl, rfl, trivial⟩ fun J => ?_
  refine cd hm ?_ ?_ <;> intro hb5 hm
  · exact sq2 (re hm (hS2.sel (nrow 1 5) rfl))
  refine pn ?_
  refine sq2 (sq2 (pn ?_))
  refine lpJ hm (fun bd1 o1 m a w3 => ∃ T2 x1, JR (nf 70) g T1 w2 a w3 T2 (loopM bd1 m x1 = some o1) [(1, pt b_p1 o_p1), (3, pt b1 0), (7, iv x1)] ([boxA b1 (cGPlay p0 a1 c1), starL R] ++ gref03Machine p1 H_p1 a2 c2 a3 n1 c3 a4 c4 a5 n2 c5 a6 n3 c6)) (fun _ _ h => je h (hS2.sel (nrow 0 6) rfl)) ?_
  rintro bd1 hbd1 o1 hq1 _ _ w3 ⟨T2, x1, J, ho1, rfl, hS3, im3⟩
  obtain ⟨m1, z1, rfl, hm, hn1⟩ := lrE ho1 hbd1
  refine sq2 (sq2 (cd hm ?_ ?_)) <;> intro hb6 hm
  · refine pn ?_
    refine sq2 (blk (sq2 ?_))
    obtain ⟨u1, hx1, hm⟩ := bindS hm
    obtain ⟨u2, hx2, hm⟩ := bindS hm
    refine rqS hS3 (pu ?_)
    refine qv (fun _ hq => r_seqn rfl rfl (ne_62 u1.Seq u1.Val u2.Seq u2.Val)) (pn ?_)
    intro w4 T3 im4 hS4
    refine cd hm ?_ ?_ <;> intro hb7 hm
    · refine sq2 (pn ?_)
      have hm := retE hm hn1 hq1
      exact re hm (hS4.sel (nrow 1 5) rfl)
    exact lg hm hn1 (hS4.sel (nrow 0 6) rfl)
  have hm := brkE hm hn1 hq1
  refine pn ?_
  exact sq2 (re hm (hS3.sel (nrow 1 5) rfl))
end Go.Proofs.YtgacfocekkckfaaGreatDoor
