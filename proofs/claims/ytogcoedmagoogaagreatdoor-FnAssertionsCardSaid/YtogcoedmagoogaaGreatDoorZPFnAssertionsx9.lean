/- Functions and contracts of a law's callees, written by a program of this session (a changed print): each contract says that the machine's call answers what the plain function says. Conditions: the plain function's own answer. -/
import Derived.Test.YtogcoedmagoogaaGreatDoorZPFnAssertionsx0
namespace Go.Proofs.YtogcoedmagoogaaGreatDoor.PFnAssertions
open Go.RowKit Go.Proofs.YtogcoedmagoogaaGreatDoorW.PrintWords Go.Proofs.YtogcoedmagoogaaGreatDoorW.PrintLast Go.Proofs.YtogcoedmagoogaaGreatDoorW.PrintMore
attribute [local go_sem] max2_int min2_int max_two min_two max_three min_three max_four min_four   -- for this text's walks alone
set_option linter.unusedVariables false
set_option linter.unusedSimpArgs false
abbrev Am9_ {p : Prop} (h : p) : Aside0 p := Aside0.mk h

/-! ### impl_IsClone: function 12 -/
def impl_IsClone.f (a0_0:ByteArray) (a0_1:ByteArray) (a0_2:Int) (a0_3:Int) (a0_4:Bool) (a0_5:Int) (a0_6:Int) (a1:Int):Option (Bool):=some (decide (a0_5 ≤ a1))
set_option maxHeartbeats 8000000 in
set_option maxRecDepth 100000 in
theorem impl_IsClone.calls (a0_0:ByteArray) (a0_1:ByteArray) (a0_2:Int) (a0_3:Int) (a0_4:Bool) (a0_5:Int) (a0_6:Int) (a1:Int) (r:Bool) (w:World) (h:impl_IsClone.f a0_0 a0_1 a0_2 a0_3 a0_4 a0_5 a0_6 a1=some r) :
  Calls Tryz.prog 12 #[.agg #[.string a0_0,.string a0_1,.int .i64 a0_2,.int .i64 a0_3,.bool a0_4,.int .i64 a0_5,.int .i64 a0_6],.int .i64 a1] w fun e w' => e=.returned (.bool r)∧Below w.heap.size w w':=by
 have hu30:=Tryz.underlying30
 have HB:=Am9_ (Below.refl w.heap.size w)
 have H:(some (decide (a0_5 ≤ a1)))=some r:=h
 clear h
 obtain rfl:=Option.some.inj H
 go_enter Tryz.func12,Tryz.ntmps12
 go_wp2_with (first|((with_reducible refine gate_dst (N:=2) rfl ?_);refine box_event ?hg (N:=2) ?hd (cs:=#[.string a0_0,.string a0_1,.int .i64 a0_2,.int .i64 a0_3,.bool a0_4,.int .i64 a0_5,.int .i64 a0_6]) (t:=30) ?hr ?_;(case hd => rfl);(case hg => rfl);(case hr => first|(go_simp;done)|(go_simp;rfl));intro gb302 hg w3 hbox hb;have n0_:=Am9_ (below_step (by repeat (first|(with_reducible first|exact HB.out|apply below_alloc|apply pw_below_drewN|apply below_drew1)|exact HB.out)) hb);have n1_:=Am9_ (hbox);have n2_:=Am9_ ((by rw [hg];exact (below_size (by repeat (first|(with_reducible first|exact HB.out|apply below_alloc|apply pw_below_drewN|apply below_drew1)|exact HB.out))):w.heap.size ≤ gb302));have n3_:=Am9_ ((by rw [hg];exact (below_size (by repeat (first|(with_reducible first|exact HB.out|apply below_alloc|apply pw_below_drewN|apply below_drew1)|exact HB.out))):w.heap.size ≤ gb302));clear HB;have HB:=n0_;have BK302:=n1_;have GW302:=n2_;have GE302:=n3_;clear n0_ n1_ n2_ n3_;clear hb hbox hg;have hcz4_0:w3.cell? ⟨gb302,0,none⟩=some (.string a0_0):=(blk_cell BK302.out 0).trans rfl;have hcz4_1:w3.cell? ⟨gb302,1,none⟩=some (.string a0_1):=(blk_cell BK302.out 1).trans rfl;have hcz4_2:w3.cell? ⟨gb302,2,none⟩=some (.int .i64 a0_2):=(blk_cell BK302.out 2).trans rfl;have hcz4_3:w3.cell? ⟨gb302,3,none⟩=some (.int .i64 a0_3):=(blk_cell BK302.out 3).trans rfl;have hcz4_4:w3.cell? ⟨gb302,4,none⟩=some (.bool a0_4):=(blk_cell BK302.out 4).trans rfl;have hcz4_5:w3.cell? ⟨gb302,5,none⟩=some (.int .i64 a0_5):=(blk_cell BK302.out 5).trans rfl;have hcz4_6:w3.cell? ⟨gb302,6,none⟩=some (.int .i64 a0_6):=(blk_cell BK302.out 6).trans rfl;have hfz4_0:=blk_frozen BK302.out 0;have hfz4_1:=blk_frozen BK302.out 1;have hfz4_2:=blk_frozen BK302.out 2;have hfz4_3:=blk_frozen BK302.out 3;have hfz4_4:=blk_frozen BK302.out 4;have hfz4_5:=blk_frozen BK302.out 5;have hfz4_6:=blk_frozen BK302.out 6))
 go_ret
 exact ⟨by first|rfl|(simp [errW_none,errW_some] <;> rfl)|(simp [*,errW_none,errW_some] <;> rfl),by repeat (first|(with_reducible first|exact HB.out|apply below_alloc|apply pw_below_drewN|apply below_drew1|refine below_set ?_ GE302.out)|exact HB.out)⟩

/-! ### impl_AssertionName: function 13 -/
def impl_AssertionName.f (a0:Int):Option (ByteArray):=if a0=0 then (some (⟨#[111,107]⟩:ByteArray)) else (if a0=1 then (some (⟨#[111,114,105,103,105,110]⟩:ByteArray)) else (if a0=2 then (some (⟨#[112,114,101,115,101,110,99,101]⟩:ByteArray)) else (if a0=3 then (some (⟨#[99,104,97,108,108,101,110,103,101]⟩:ByteArray)) else (if a0=4 then (some (⟨#[99,111,117,110,116,101,114]⟩:ByteArray)) else (if a0=5 then (some (⟨#[115,105,103,110,97,116,117,114,101]⟩:ByteArray)) else (some (⟨#[]⟩:ByteArray)))))))
set_option maxHeartbeats 8000000 in
set_option maxRecDepth 100000 in
theorem impl_AssertionName.calls (a0:Int) (r:ByteArray) (w:World) (h:impl_AssertionName.f a0=some r) :
  Calls Tryz.prog 13 #[.int .i64 a0] w fun e w' => e=.returned (.string r)∧Drawn0 w w':=by
 have H:(if a0=0 then (some (⟨#[111,107]⟩:ByteArray)) else (if a0=1 then (some (⟨#[111,114,105,103,105,110]⟩:ByteArray)) else (if a0=2 then (some (⟨#[112,114,101,115,101,110,99,101]⟩:ByteArray)) else (if a0=3 then (some (⟨#[99,104,97,108,108,101,110,103,101]⟩:ByteArray)) else (if a0=4 then (some (⟨#[99,111,117,110,116,101,114]⟩:ByteArray)) else (if a0=5 then (some (⟨#[115,105,103,110,97,116,117,114,101]⟩:ByteArray)) else (some (⟨#[]⟩:ByteArray))))))))=some r:=h
 clear h
 by_cases c2:a0=0
 ·rw [if_pos c2] at H
  have c2b0:(a0 == 0)=true:=beq_iff_eq.mpr c2
  have c2b1:(a0 != 0)=false:=bne_eq_false_iff_eq.mpr c2
  clear c2
  obtain rfl:=Option.some.inj H
  go_enter Tryz.func13,Tryz.ntmps13
  go_wp2
  go_ret
  exact ⟨by first|rfl|(simp;done)|(simp [*];done),by repeat (first|exact Drawn0.refl _|apply Drawn0.step)⟩
 ·rw [if_neg c2] at H
  have c2b0:(a0 == 0)=false:=beq_eq_false_iff_ne.mpr c2
  have c2b1:(a0 != 0)=true:=bne_iff_ne.mpr c2
  by_cases c3:a0=1
  ·rw [if_pos c3] at H
   have c3b0:(a0 == 1)=true:=beq_iff_eq.mpr c3
   have c3b1:(a0 != 1)=false:=bne_eq_false_iff_eq.mpr c3
   clear c3
   obtain rfl:=Option.some.inj H
   go_enter Tryz.func13,Tryz.ntmps13
   go_wp2
   go_ret
   exact ⟨by first|rfl|(simp;done)|(simp [*];done),by repeat (first|exact Drawn0.refl _|apply Drawn0.step)⟩
  ·rw [if_neg c3] at H
   have c3b0:(a0 == 1)=false:=beq_eq_false_iff_ne.mpr c3
   have c3b1:(a0 != 1)=true:=bne_iff_ne.mpr c3
   by_cases c4:a0=2
   ·rw [if_pos c4] at H
    have c4b0:(a0 == 2)=true:=beq_iff_eq.mpr c4
    have c4b1:(a0 != 2)=false:=bne_eq_false_iff_eq.mpr c4
    clear c4
    obtain rfl:=Option.some.inj H
    go_enter Tryz.func13,Tryz.ntmps13
    go_wp2
    go_ret
    exact ⟨by first|rfl|(simp;done)|(simp [*];done),by repeat (first|exact Drawn0.refl _|apply Drawn0.step)⟩
   ·rw [if_neg c4] at H
    have c4b0:(a0 == 2)=false:=beq_eq_false_iff_ne.mpr c4
    have c4b1:(a0 != 2)=true:=bne_iff_ne.mpr c4
    by_cases c5:a0=3
    ·rw [if_pos c5] at H
     have c5b0:(a0 == 3)=true:=beq_iff_eq.mpr c5
     have c5b1:(a0 != 3)=false:=bne_eq_false_iff_eq.mpr c5
     clear c5
     obtain rfl:=Option.some.inj H
     go_enter Tryz.func13,Tryz.ntmps13
     go_wp2
     go_ret
     exact ⟨by first|rfl|(simp;done)|(simp [*];done),by repeat (first|exact Drawn0.refl _|apply Drawn0.step)⟩
    ·rw [if_neg c5] at H
     have c5b0:(a0 == 3)=false:=beq_eq_false_iff_ne.mpr c5
     have c5b1:(a0 != 3)=true:=bne_iff_ne.mpr c5
     by_cases c6:a0=4
     ·rw [if_pos c6] at H
      have c6b0:(a0 == 4)=true:=beq_iff_eq.mpr c6
      have c6b1:(a0 != 4)=false:=bne_eq_false_iff_eq.mpr c6
      clear c6
      obtain rfl:=Option.some.inj H
      go_enter Tryz.func13,Tryz.ntmps13
      go_wp2
      go_ret
      exact ⟨by first|rfl|(simp;done)|(simp [*];done),by repeat (first|exact Drawn0.refl _|apply Drawn0.step)⟩
     ·rw [if_neg c6] at H
      have c6b0:(a0 == 4)=false:=beq_eq_false_iff_ne.mpr c6
      have c6b1:(a0 != 4)=true:=bne_iff_ne.mpr c6
      by_cases c7:a0=5
      ·rw [if_pos c7] at H
       have c7b0:(a0 == 5)=true:=beq_iff_eq.mpr c7
       have c7b1:(a0 != 5)=false:=bne_eq_false_iff_eq.mpr c7
       clear c7
       obtain rfl:=Option.some.inj H
       go_enter Tryz.func13,Tryz.ntmps13
       go_wp2
       go_ret
       exact ⟨by first|rfl|(simp;done)|(simp [*];done),by repeat (first|exact Drawn0.refl _|apply Drawn0.step)⟩
      ·rw [if_neg c7] at H
       have c7b0:(a0 == 5)=false:=beq_eq_false_iff_ne.mpr c7
       have c7b1:(a0 != 5)=true:=bne_iff_ne.mpr c7
       obtain rfl:=Option.some.inj H
       go_enter Tryz.func13,Tryz.ntmps13
       go_wp2
       go_ret
       exact ⟨by first|rfl|(simp;done)|(simp [*];done),by repeat (first|exact Drawn0.refl _|apply Drawn0.step)⟩

end Go.Proofs.YtogcoedmagoogaaGreatDoor.PFnAssertions
