/- Functions and contracts of a law's callees, written by a program of this session (a changed print): each contract says that the machine's call answers what the plain function says. Conditions: the plain function's own answer. -/
import Derived.Test.YtogcoedmagoogaaGreatDoorZPFnExactCheckAssertionx0
import Derived.Test.YtogcoedmagoogaaGreatDoorZPFnExactCheckAssertionx1
import Derived.Test.YtogcoedmagoogaaGreatDoorZPFnExactCheckAssertionx2
import Derived.Test.YtogcoedmagoogaaGreatDoorZPFnExactCheckAssertionx3
namespace Go.Proofs.YtogcoedmagoogaaGreatDoor.PFnExactCheckAssertion
open Go.RowKit Go.Proofs.YtogcoedmagoogaaGreatDoorW.PrintWords Go.Proofs.YtogcoedmagoogaaGreatDoorW.PrintLast Go.Proofs.YtogcoedmagoogaaGreatDoorW.PrintMore
attribute [local go_sem] max2_int min2_int max_two min_two max_three min_three max_four min_four   -- for this text's walks alone
set_option linter.unusedVariables false
set_option linter.unusedSimpArgs false
abbrev Am4_ {p : Prop} (h : p) : Aside0 p := Aside0.mk h

namespace Y4
class Ex_ (w W:World):Prop where
 k:∀ {g:Nat} {o:Obj},w.heap[g]?=some o → W.heap[g]?=some o
 e:∀ {v:World},Below v.heap.size v w → Below v.heap.size v W
instance (priority:=low) Ex_.rf (w:World):Ex_ w w:=⟨fun h => h,fun h => h⟩
instance Ex_.dn {w W:World} [x:Ex_ w W] (n:Nat):Ex_ w (W.drewN n):=⟨fun h => blk_drewN (x.k h) n,fun h => pw_below_drewN (x.e h) n⟩
instance Ex_.dr {w W:World} [x:Ex_ w W]:Ex_ w W.drew:=⟨fun h => blk_drew (x.k h),fun h => below_drew1 (x.e h)⟩
instance Ex_.al {w W:World} [x:Ex_ w W] (o:Obj):Ex_ w (W.alloc o):=⟨fun h => blk_alloc (x.k h) o,fun h => below_alloc (x.e h) o⟩
theorem xk_ {w W:World} {g:Nat} {o:Obj} (h:Aside0 (w.heap[g]?=some o)) [x:Ex_ w W]:W.heap[g]?=some o:=x.k h.out
theorem ne1_ {w W:World} {g g':Nat} {o:Obj} (hg:g'=W.heap.size) (h:Aside0 (w.heap[g]?=some o)) [x:Ex_ w W]:Aside0 (g ≠ g'):=Am4_ (by rw [hg];exact Nat.ne_of_lt (blk_lt (x.k h.out)))
theorem ne2_ {w W:World} {g g':Nat} {o:Obj} (hg:g'=W.heap.size) (h:Aside0 (w.heap[g]?=some o)) [x:Ex_ w W]:Aside0 (g' ≠ g):=Am4_ (by rw [hg];exact Nat.ne_of_gt (blk_lt (x.k h.out)))
theorem gw_ {v w W:World} {g':Nat} (hg:g'=W.heap.size) (h:Aside0 (Below v.heap.size v w)) [x:Ex_ w W]:Aside0 (v.heap.size ≤ g'):=Am4_ (by rw [hg];exact below_size (x.e h.out))
theorem bb_ {w W W':World} {g:Nat} {o:Obj} (h:Aside0 (w.heap[g]?=some o)) (hb:Below W.heap.size W W') [x:Ex_ w W]:Aside0 (W'.heap[g]?=some o):=Am4_ (blk_below (x.k h.out) hb)
theorem bs_ {v w W W':World} (h:Aside0 (Below v.heap.size v w)) (hb:Below W.heap.size W W') [x:Ex_ w W]:Aside0 (Below v.heap.size v W'):=Am4_ (below_step (x.e h.out) hb)
theorem xe_ {v w W:World} (h:Aside0 (Below v.heap.size v w)) [x:Ex_ w W]:Below v.heap.size v W:=x.e h.out
end Y4
open Y4

namespace Y4
abbrev Sa_ := @List.setIfInBounds_toArray
abbrev Sb_ := @List.set_cons_zero
abbrev Sc_ := @List.set_cons_succ
theorem q_ {w W : World} {g : Nat} {t : TypeId} {cs : Array Value} (h : Aside0 (w.heap[g]? = some (.cells cs t (0, 0)))) (i : Nat) {v : Option Value} (e : cs[i]? = v) [x : Ex_ w W] : W.cell? ⟨g, i, none⟩ = v := (blk_cell (x.k h.out) i).trans e
end Y4
open Y4
/-! ### stringslite_HasSuffix: function 95 -/
def stringslite_HasSuffix.f (a0:ByteArray) (a1:ByteArray):Option (Bool):=if (a0.size:Int) ≥ (a1.size:Int) then (if 0 ≤ (wrap64 ((a0.size:Int) - (a1.size:Int))) then (if (wrap64 ((a0.size:Int) - (a1.size:Int))) ≤ (a0.size:Int) then (some ((a0.extract ((wrap64 ((a0.size:Int) - (a1.size:Int))):Int).toNat a0.size).toList == a1.toList)) else (none)) else (none)) else (some false)
set_option maxHeartbeats 8000000 in
set_option maxRecDepth 100000 in
theorem stringslite_HasSuffix.calls (a0:ByteArray) (a1:ByteArray) (r:Bool) (w:World) (h:stringslite_HasSuffix.f a0 a1=some r) :
  Calls Tryz.prog 95 #[.string a0,.string a1] w fun e w' => e=.returned (.bool r)∧Drawn0 w w':=by
 have H:=h;unfold stringslite_HasSuffix.f at H;clear h
 by_cases c3:(a0.size:Int) ≥ (a1.size:Int)
 ·rw [if_pos c3] at H
  have c3b0:decide ((a1.size:Int) ≤ (a0.size:Int))=true:=decide_eq_true c3;have c3b1:decide (a1.size ≤ a0.size)=true:=decide_eq_true (Int.ofNat_le.mp c3);clear c3;obtain ⟨ji4,hji4⟩:∃ j_:Int,(wrap64 ((a0.size:Int) - (a1.size:Int)))=j_:=⟨_,rfl⟩;replace H:(if 0 ≤ (ji4) then (if (ji4) ≤ (a0.size:Int) then (some ((a0.extract ((ji4):Int).toNat a0.size).toList == a1.toList)) else (none)) else (none))=some r:=by first|(rw [hji4] at H;exact H)|(simp only [hji4] at H ⊢;exact H)
  have hji4w:(IntKind.i64.wrap ((a0.size:Int) - (a1.size:Int)))=ji4:=(i64_w _).trans hji4
  by_cases c5:0 ≤ (ji4)
  ·rw [if_pos c5] at H
   have c5b0:=eq_true c5;have c5b1:decide (0 ≤ (ji4))=true:=decide_eq_true c5;clear c5
   by_cases c6:(ji4) ≤ (a0.size:Int)
   ·rw [if_pos c6] at H
    have c6b0:=eq_true c6;have c6b1:decide ((ji4) ≤ (a0.size:Int))=true:=decide_eq_true c6;clear c6;obtain rfl:=Option.some.inj H
    go_enter Tryz.func95,Tryz.ntmps95
    go_wp2
    go_ret
    exact ⟨by first|rfl|(simp;done)|(simp only [← hji4] <;> (first|rfl|simp))|(simp [*];done),by repeat (first|exact Drawn0.refl _|apply Drawn0.step)⟩
   ·rw [if_neg c6] at H
    exact absurd H (by simp)
  ·rw [if_neg c5] at H
   exact absurd H (by simp)
 ·rw [if_neg c3] at H
  have c3b0:decide ((a1.size:Int) ≤ (a0.size:Int))=false:=decide_eq_false c3;have c3b1:decide (a1.size ≤ a0.size)=false:=decide_eq_false (fun h => c3 (Int.ofNat_le.mpr h));clear c3;obtain rfl:=Option.some.inj H
  go_enter Tryz.func95,Tryz.ntmps95
  go_wp2
  go_ret
  exact ⟨by first|rfl|(simp;done)|(simp [*];done),by repeat (first|exact Drawn0.refl _|apply Drawn0.step)⟩

/-! ### strings_HasSuffix: function 65 -/
def strings_HasSuffix.f (a0:ByteArray) (a1:ByteArray):Option (Bool):=(stringslite_HasSuffix.f a0 a1).bind fun t166 => (some t166)
set_option maxHeartbeats 8000000 in
set_option maxRecDepth 100000 in
theorem strings_HasSuffix.calls (a0:ByteArray) (a1:ByteArray) (r:Bool) (w:World) (h:strings_HasSuffix.f a0 a1=some r) :
  Calls Tryz.prog 65 #[.string a0,.string a1] w fun e w' => e=.returned (.bool r)∧Drawn0 w w':=by
 have H:((stringslite_HasSuffix.f a0 a1).bind fun t166 => (some t166))=some r:=h;clear h;replace H:=Option.bind_eq_some_iff.mp H;obtain ⟨t166,A30,H⟩:=H
 try dsimp only at H
 have A3:=Am4_ A30;clear A30;obtain rfl:=Option.some.inj H
 go_enter Tryz.func65,Tryz.ntmps65
 go_wp2_with (first|((with_reducible refine gate_callee (f:=95) rfl ?_);refine goesL_ (some 7) rfl rfl Tryz.func95 (by kernel_rfl) rfl #[.string a0,.string a1] rfl (by (try simp only [List.map_toArray,List.map_cons,List.map_nil]);first|done|rfl|(simp only [List.length_drop,List.length_take];rfl)) ?_;(with_reducible refine (stringslite_HasSuffix.calls a0 a1 t166 _ A3.out).mono ?_);rintro e w' ⟨rfl,⟨nd,rfl⟩⟩;refine ⟨_,rfl,?_⟩))
 go_ret
 exact ⟨by first|rfl|(simp;done)|(simp [*];done),by repeat (first|exact Drawn0.refl _|apply Drawn0.step)⟩

/-! ### impl_MayUse: function 31 -/
def impl_MayUse.f (k:Nat) (a0_0:Bool) (a0_1:ByteArray) (a0_2:Int) (a1:ByteArray):Option (Bool):=(impl_IsOrigin.f k a0_0 a0_1 a0_2).bind fun t168 => (if t168=true then (if a0_0=true then ((impl_IsHost.f k a1).bind fun t169 => (if t169=true then ((strings_Contains.f a1 (⟨#[46]⟩:ByteArray)).bind fun t170 => (if t170=true then (if a0_1.toList=a1.toList then (some true) else (if 1 + a1.size ≤ 9223372036854775807 then ((strings_HasSuffix.f a0_1 ((⟨#[46]⟩:ByteArray) ++ a1)).bind fun t171 => (some t171)) else (none))) else (some false))) else (some false))) else (some false)) else (some false))
theorem impl_MayUse.mono:∀ a0 a1 a2 a3 k,LeO (impl_MayUse.f k a0 a1 a2 a3) (impl_MayUse.f (k + 1) a0 a1 a2 a3):=by
 intro a0 a1 a2 a3 k
 unfold impl_MayUse.f
 repeat' first
  |(with_reducible exact impl_IsHost.mono _ _)
  |(with_reducible exact impl_IsOrigin.mono _ _ _ _)
  |(with_reducible exact LeO.refl _)
  |(with_reducible exact LeO.none _)
  |(with_reducible refine LeO.ite ?_ ?_)
  |(with_reducible refine LeO.bind ?_ (fun _ => ?_))
  |exact impl_IsHost.mono _ _
  |exact impl_IsOrigin.mono _ _ _ _
  |exact LeO.none _
  |refine LeO.ite ?_ ?_
  |refine LeO.bind ?_ (fun _ => ?_)
set_option maxHeartbeats 8000000 in
set_option maxRecDepth 100000 in
theorem impl_MayUse.calls (k:Nat) (a0_0:Bool) (a0_1:ByteArray) (a0_2:Int) (a1:ByteArray) (r:Bool) (w:World) (h:impl_MayUse.f k a0_0 a0_1 a0_2 a1=some r) :
  Calls Tryz.prog 31 #[.agg #[.bool a0_0,.string a0_1,.int .i64 a0_2],.string a1] w fun e w' => e=.returned (.bool r)∧Below w.heap.size w w':=by
 have hu28:=Tryz.underlying28;have HB:=Am4_ (Below.refl w.heap.size w);have H:=h;unfold impl_MayUse.f at H;clear h;replace H:=Option.bind_eq_some_iff.mp H;obtain ⟨t168,A30,H⟩:=H
 try dsimp only at H
 have A3:=Am4_ A30;clear A30
 by_cases c4:t168=true
 ·subst c4
  rw [if_pos rfl] at H
  by_cases c5:a0_0=true
  ·subst c5
   rw [if_pos rfl] at H
   replace H:=Option.bind_eq_some_iff.mp H;obtain ⟨t169,A60,H⟩:=H
   try dsimp only at H
   have A6:=Am4_ A60;clear A60
   by_cases c7:t169=true
   ·subst c7
    rw [if_pos rfl] at H
    replace H:=Option.bind_eq_some_iff.mp H;obtain ⟨t170,A80,H⟩:=H
    try dsimp only at H
    have A8:=Am4_ A80;clear A80
    by_cases c9:t170=true
    ·subst c9
     rw [if_pos rfl] at H
     by_cases c10:a0_1.toList=a1.toList
     ·rw [if_pos c10] at H
      have c10b0:(a0_1.toList == a1.toList)=true:=beq_iff_eq.mpr c10;have c10b1:(a0_1.toList != a1.toList)=false:=bne_eq_false_iff_eq.mpr c10;clear c10;obtain rfl:=Option.some.inj H
      go_enter Tryz.func31,Tryz.ntmps31
      go_wp2_with (first|((with_reducible refine gate_dst (N:=2) rfl ?_);refine box_event ?hg (N:=2) ?hd (cs:=#[.bool true,.string a0_1,.int .i64 a0_2]) (t:=28) ?hr ?_;(case hd => rfl);(case hg => rfl);(case hr => first|(go_simp;done)|(go_simp;rfl));intro gb167 hg w11 hbox hb;have n0_:=bs_ HB hb;have n1_:=Am4_ (hbox);have n2_:=gw_ hg HB;have n3_:=gw_ hg HB;clear HB;have HB:=n0_;have BK167:=n1_;have GW167:=n2_;have GE167:=n3_;clear n0_ n1_ n2_ n3_;clear hb hbox hg;have hcz12_0:w11.cell? ⟨gb167,0,none⟩=some (.bool true):=q_ BK167 0 rfl;have hcz12_1:w11.cell? ⟨gb167,1,none⟩=some (.string a0_1):=q_ BK167 1 rfl;have hcz12_2:w11.cell? ⟨gb167,2,none⟩=some (.int .i64 a0_2):=q_ BK167 2 rfl;have hfz12_0:=blk_frozen BK167.out 0;have hfz12_1:=blk_frozen BK167.out 1;have hfz12_2:=blk_frozen BK167.out 2)|((with_reducible refine gate_callee (f:=57) rfl ?_);refine goesL_ (some 6) rfl rfl Tryz.func57 (by kernel_rfl) rfl #[.agg #[.bool true,.string a0_1,.int .i64 a0_2]] rfl (by (try simp only [List.map_toArray,List.map_cons,List.map_nil]);first|done|rfl|(simp only [List.length_drop,List.length_take];rfl)) ?_;(with_reducible refine (impl_IsOrigin.calls k true a0_1 a0_2 true _ A3.out).mono ?_);rintro e w13 ⟨rfl,hb⟩;refine ⟨_,rfl,?_⟩;have n0_:=bb_ BK167 hb;have n1_:=bs_ HB hb;clear BK167;clear HB;have BK167:=n0_;have HB:=n1_;clear n0_ n1_;(try clear hb);(try clear hb2);(try clear hk);(try clear hi);have hcz14_0:w13.cell? ⟨gb167,0,none⟩=some (.bool true):=q_ BK167 0 rfl;have hcz14_1:w13.cell? ⟨gb167,1,none⟩=some (.string a0_1):=q_ BK167 1 rfl;have hcz14_2:w13.cell? ⟨gb167,2,none⟩=some (.int .i64 a0_2):=q_ BK167 2 rfl;have hfz14_0:=blk_frozen BK167.out 0;have hfz14_1:=blk_frozen BK167.out 1;have hfz14_2:=blk_frozen BK167.out 2)|(go_at_call 35;(with_reducible refine (impl_IsHost.calls k a1 true _ A6.out).mono ?_);rintro e w15 ⟨rfl,hb⟩;have n0_:=bb_ BK167 hb;have n1_:=bs_ HB hb;clear BK167;clear HB;have BK167:=n0_;have HB:=n1_;clear n0_ n1_;(try clear hb);(try clear hb2);(try clear hk);(try clear hi))|(go_at_call 64;(with_reducible refine (strings_Contains.calls a1 (⟨#[46]⟩:ByteArray) true _ A8.out).mono ?_);rintro e w' ⟨rfl,⟨nd,rfl⟩⟩;have hcz16_0:w15.cell? ⟨gb167,0,none⟩=some (.bool true):=q_ BK167 0 rfl;have hcz16_1:w15.cell? ⟨gb167,1,none⟩=some (.string a0_1):=q_ BK167 1 rfl;have hcz16_2:w15.cell? ⟨gb167,2,none⟩=some (.int .i64 a0_2):=q_ BK167 2 rfl;have hfz16_0:=blk_frozen BK167.out 0;have hfz16_1:=blk_frozen BK167.out 1;have hfz16_2:=blk_frozen BK167.out 2))
      go_ret
      exact ⟨by first|rfl|(simp [errW_none,errW_some] <;> rfl)|(simp [*,errW_none,errW_some] <;> rfl),by repeat (first|(with_reducible first|exact HB.out|apply below_alloc|apply pw_below_drewN|apply below_drew1|refine below_set ?_ GE167.out)|exact HB.out)⟩
     ·rw [if_neg c10] at H
      have c10b0:(a0_1.toList == a1.toList)=false:=beq_eq_false_iff_ne.mpr c10;have c10b1:(a0_1.toList != a1.toList)=true:=bne_iff_ne.mpr c10
      by_cases c17:1 + a1.size ≤ 9223372036854775807
      ·rw [if_pos c17] at H
       have c17b0:=eq_true c17;have c17b1:decide (1 + a1.size ≤ 9223372036854775807)=true:=decide_eq_true c17
       try have c17b2:(9223372036854775807 < 1 + a1.size)=False:=eq_false (Nat.not_lt.2 c17)
       replace H:=Option.bind_eq_some_iff.mp H;obtain ⟨t171,A180,H⟩:=H
       try dsimp only at H
       have A18:=Am4_ A180;clear A180;obtain rfl:=Option.some.inj H
       go_enter Tryz.func31,Tryz.ntmps31
       go_wp2_with (first|((with_reducible refine gate_dst (N:=2) rfl ?_);refine box_event ?hg (N:=2) ?hd (cs:=#[.bool true,.string a0_1,.int .i64 a0_2]) (t:=28) ?hr ?_;(case hd => rfl);(case hg => rfl);(case hr => first|(go_simp;done)|(go_simp;rfl));intro gb167 hg w19 hbox hb;have n0_:=bs_ HB hb;have n1_:=Am4_ (hbox);have n2_:=gw_ hg HB;have n3_:=gw_ hg HB;clear HB;have HB:=n0_;have BK167:=n1_;have GW167:=n2_;have GE167:=n3_;clear n0_ n1_ n2_ n3_;clear hb hbox hg;have hcz20_0:w19.cell? ⟨gb167,0,none⟩=some (.bool true):=q_ BK167 0 rfl;have hcz20_1:w19.cell? ⟨gb167,1,none⟩=some (.string a0_1):=q_ BK167 1 rfl;have hcz20_2:w19.cell? ⟨gb167,2,none⟩=some (.int .i64 a0_2):=q_ BK167 2 rfl;have hfz20_0:=blk_frozen BK167.out 0;have hfz20_1:=blk_frozen BK167.out 1;have hfz20_2:=blk_frozen BK167.out 2)|((with_reducible refine gate_callee (f:=57) rfl ?_);refine goesL_ (some 6) rfl rfl Tryz.func57 (by kernel_rfl) rfl #[.agg #[.bool true,.string a0_1,.int .i64 a0_2]] rfl (by (try simp only [List.map_toArray,List.map_cons,List.map_nil]);first|done|rfl|(simp only [List.length_drop,List.length_take];rfl)) ?_;(with_reducible refine (impl_IsOrigin.calls k true a0_1 a0_2 true _ A3.out).mono ?_);rintro e w21 ⟨rfl,hb⟩;refine ⟨_,rfl,?_⟩;have n0_:=bb_ BK167 hb;have n1_:=bs_ HB hb;clear BK167;clear HB;have BK167:=n0_;have HB:=n1_;clear n0_ n1_;(try clear hb);(try clear hb2);(try clear hk);(try clear hi);have hcz22_0:w21.cell? ⟨gb167,0,none⟩=some (.bool true):=q_ BK167 0 rfl;have hcz22_1:w21.cell? ⟨gb167,1,none⟩=some (.string a0_1):=q_ BK167 1 rfl;have hcz22_2:w21.cell? ⟨gb167,2,none⟩=some (.int .i64 a0_2):=q_ BK167 2 rfl;have hfz22_0:=blk_frozen BK167.out 0;have hfz22_1:=blk_frozen BK167.out 1;have hfz22_2:=blk_frozen BK167.out 2)|(go_at_call 35;(with_reducible refine (impl_IsHost.calls k a1 true _ A6.out).mono ?_);rintro e w23 ⟨rfl,hb⟩;have n0_:=bb_ BK167 hb;have n1_:=bs_ HB hb;clear BK167;clear HB;have BK167:=n0_;have HB:=n1_;clear n0_ n1_;(try clear hb);(try clear hb2);(try clear hk);(try clear hi))|(go_at_call 64;(with_reducible refine (strings_Contains.calls a1 (⟨#[46]⟩:ByteArray) true _ A8.out).mono ?_);rintro e w' ⟨rfl,⟨nd,rfl⟩⟩;have hcz24_0:w23.cell? ⟨gb167,0,none⟩=some (.bool true):=q_ BK167 0 rfl;have hcz24_1:w23.cell? ⟨gb167,1,none⟩=some (.string a0_1):=q_ BK167 1 rfl;have hcz24_2:w23.cell? ⟨gb167,2,none⟩=some (.int .i64 a0_2):=q_ BK167 2 rfl;have hfz24_0:=blk_frozen BK167.out 0;have hfz24_1:=blk_frozen BK167.out 1;have hfz24_2:=blk_frozen BK167.out 2)|(go_at_call 65;(with_reducible refine (strings_HasSuffix.calls a0_1 ((⟨#[46]⟩:ByteArray) ++ a1) t171 _ A18.out).mono ?_);rintro e w' ⟨rfl,⟨nd,rfl⟩⟩))
       go_ret
       exact ⟨by first|rfl|(simp [errW_none,errW_some] <;> rfl)|(simp [*,errW_none,errW_some] <;> rfl),by repeat (first|(with_reducible first|exact HB.out|apply below_alloc|apply pw_below_drewN|apply below_drew1|refine below_set ?_ GE167.out)|exact HB.out)⟩
      ·rw [if_neg c17] at H
       exact absurd H (by simp)
    ·replace c9:=Bool.eq_false_iff.mpr c9;subst c9
     rw [if_neg (show ¬ (false=true) by decide)] at H
     obtain rfl:=Option.some.inj H
     go_enter Tryz.func31,Tryz.ntmps31
     go_wp2_with (first|((with_reducible refine gate_dst (N:=2) rfl ?_);refine box_event ?hg (N:=2) ?hd (cs:=#[.bool true,.string a0_1,.int .i64 a0_2]) (t:=28) ?hr ?_;(case hd => rfl);(case hg => rfl);(case hr => first|(go_simp;done)|(go_simp;rfl));intro gb167 hg w25 hbox hb;have n0_:=bs_ HB hb;have n1_:=Am4_ (hbox);have n2_:=gw_ hg HB;have n3_:=gw_ hg HB;clear HB;have HB:=n0_;have BK167:=n1_;have GW167:=n2_;have GE167:=n3_;clear n0_ n1_ n2_ n3_;clear hb hbox hg;have hcz26_0:w25.cell? ⟨gb167,0,none⟩=some (.bool true):=q_ BK167 0 rfl;have hcz26_1:w25.cell? ⟨gb167,1,none⟩=some (.string a0_1):=q_ BK167 1 rfl;have hcz26_2:w25.cell? ⟨gb167,2,none⟩=some (.int .i64 a0_2):=q_ BK167 2 rfl;have hfz26_0:=blk_frozen BK167.out 0;have hfz26_1:=blk_frozen BK167.out 1;have hfz26_2:=blk_frozen BK167.out 2)|((with_reducible refine gate_callee (f:=57) rfl ?_);refine goesL_ (some 6) rfl rfl Tryz.func57 (by kernel_rfl) rfl #[.agg #[.bool true,.string a0_1,.int .i64 a0_2]] rfl (by (try simp only [List.map_toArray,List.map_cons,List.map_nil]);first|done|rfl|(simp only [List.length_drop,List.length_take];rfl)) ?_;(with_reducible refine (impl_IsOrigin.calls k true a0_1 a0_2 true _ A3.out).mono ?_);rintro e w27 ⟨rfl,hb⟩;refine ⟨_,rfl,?_⟩;have n0_:=bb_ BK167 hb;have n1_:=bs_ HB hb;clear BK167;clear HB;have BK167:=n0_;have HB:=n1_;clear n0_ n1_;(try clear hb);(try clear hb2);(try clear hk);(try clear hi);have hcz28_0:w27.cell? ⟨gb167,0,none⟩=some (.bool true):=q_ BK167 0 rfl;have hcz28_1:w27.cell? ⟨gb167,1,none⟩=some (.string a0_1):=q_ BK167 1 rfl;have hcz28_2:w27.cell? ⟨gb167,2,none⟩=some (.int .i64 a0_2):=q_ BK167 2 rfl;have hfz28_0:=blk_frozen BK167.out 0;have hfz28_1:=blk_frozen BK167.out 1;have hfz28_2:=blk_frozen BK167.out 2)|(go_at_call 35;(with_reducible refine (impl_IsHost.calls k a1 true _ A6.out).mono ?_);rintro e w29 ⟨rfl,hb⟩;have n0_:=bb_ BK167 hb;have n1_:=bs_ HB hb;clear BK167;clear HB;have BK167:=n0_;have HB:=n1_;clear n0_ n1_;(try clear hb);(try clear hb2);(try clear hk);(try clear hi))|(go_at_call 64;(with_reducible refine (strings_Contains.calls a1 (⟨#[46]⟩:ByteArray) false _ A8.out).mono ?_);rintro e w' ⟨rfl,⟨nd,rfl⟩⟩))
     go_ret
     exact ⟨by first|rfl|(simp [errW_none,errW_some] <;> rfl)|(simp [*,errW_none,errW_some] <;> rfl),by repeat (first|(with_reducible first|exact HB.out|apply below_alloc|apply pw_below_drewN|apply below_drew1|refine below_set ?_ GE167.out)|exact HB.out)⟩
   ·replace c7:=Bool.eq_false_iff.mpr c7;subst c7
    rw [if_neg (show ¬ (false=true) by decide)] at H
    obtain rfl:=Option.some.inj H
    go_enter Tryz.func31,Tryz.ntmps31
    go_wp2_with (first|((with_reducible refine gate_dst (N:=2) rfl ?_);refine box_event ?hg (N:=2) ?hd (cs:=#[.bool true,.string a0_1,.int .i64 a0_2]) (t:=28) ?hr ?_;(case hd => rfl);(case hg => rfl);(case hr => first|(go_simp;done)|(go_simp;rfl));intro gb167 hg w30 hbox hb;have n0_:=bs_ HB hb;have n1_:=Am4_ (hbox);have n2_:=gw_ hg HB;have n3_:=gw_ hg HB;clear HB;have HB:=n0_;have BK167:=n1_;have GW167:=n2_;have GE167:=n3_;clear n0_ n1_ n2_ n3_;clear hb hbox hg;have hcz31_0:w30.cell? ⟨gb167,0,none⟩=some (.bool true):=q_ BK167 0 rfl;have hcz31_1:w30.cell? ⟨gb167,1,none⟩=some (.string a0_1):=q_ BK167 1 rfl;have hcz31_2:w30.cell? ⟨gb167,2,none⟩=some (.int .i64 a0_2):=q_ BK167 2 rfl;have hfz31_0:=blk_frozen BK167.out 0;have hfz31_1:=blk_frozen BK167.out 1;have hfz31_2:=blk_frozen BK167.out 2)|((with_reducible refine gate_callee (f:=57) rfl ?_);refine goesL_ (some 6) rfl rfl Tryz.func57 (by kernel_rfl) rfl #[.agg #[.bool true,.string a0_1,.int .i64 a0_2]] rfl (by (try simp only [List.map_toArray,List.map_cons,List.map_nil]);first|done|rfl|(simp only [List.length_drop,List.length_take];rfl)) ?_;(with_reducible refine (impl_IsOrigin.calls k true a0_1 a0_2 true _ A3.out).mono ?_);rintro e w32 ⟨rfl,hb⟩;refine ⟨_,rfl,?_⟩;have n0_:=bb_ BK167 hb;have n1_:=bs_ HB hb;clear BK167;clear HB;have BK167:=n0_;have HB:=n1_;clear n0_ n1_;(try clear hb);(try clear hb2);(try clear hk);(try clear hi);have hcz33_0:w32.cell? ⟨gb167,0,none⟩=some (.bool true):=q_ BK167 0 rfl;have hcz33_1:w32.cell? ⟨gb167,1,none⟩=some (.string a0_1):=q_ BK167 1 rfl;have hcz33_2:w32.cell? ⟨gb167,2,none⟩=some (.int .i64 a0_2):=q_ BK167 2 rfl;have hfz33_0:=blk_frozen BK167.out 0;have hfz33_1:=blk_frozen BK167.out 1;have hfz33_2:=blk_frozen BK167.out 2)|(go_at_call 35;(with_reducible refine (impl_IsHost.calls k a1 false _ A6.out).mono ?_);rintro e w34 ⟨rfl,hb⟩;have n0_:=bb_ BK167 hb;have n1_:=bs_ HB hb;clear BK167;clear HB;have BK167:=n0_;have HB:=n1_;clear n0_ n1_;(try clear hb);(try clear hb2);(try clear hk);(try clear hi)))
    go_ret
    exact ⟨by first|rfl|(simp [errW_none,errW_some] <;> rfl)|(simp [*,errW_none,errW_some] <;> rfl),by repeat (first|(with_reducible first|exact HB.out|apply below_alloc|apply pw_below_drewN|apply below_drew1|refine below_set ?_ GE167.out)|exact HB.out)⟩
  ·replace c5:=Bool.eq_false_iff.mpr c5;subst c5
   rw [if_neg (show ¬ (false=true) by decide)] at H
   obtain rfl:=Option.some.inj H
   go_enter Tryz.func31,Tryz.ntmps31
   go_wp2_with (first|((with_reducible refine gate_dst (N:=2) rfl ?_);refine box_event ?hg (N:=2) ?hd (cs:=#[.bool false,.string a0_1,.int .i64 a0_2]) (t:=28) ?hr ?_;(case hd => rfl);(case hg => rfl);(case hr => first|(go_simp;done)|(go_simp;rfl));intro gb167 hg w35 hbox hb;have n0_:=bs_ HB hb;have n1_:=Am4_ (hbox);have n2_:=gw_ hg HB;have n3_:=gw_ hg HB;clear HB;have HB:=n0_;have BK167:=n1_;have GW167:=n2_;have GE167:=n3_;clear n0_ n1_ n2_ n3_;clear hb hbox hg;have hcz36_0:w35.cell? ⟨gb167,0,none⟩=some (.bool false):=q_ BK167 0 rfl;have hcz36_1:w35.cell? ⟨gb167,1,none⟩=some (.string a0_1):=q_ BK167 1 rfl;have hcz36_2:w35.cell? ⟨gb167,2,none⟩=some (.int .i64 a0_2):=q_ BK167 2 rfl;have hfz36_0:=blk_frozen BK167.out 0;have hfz36_1:=blk_frozen BK167.out 1;have hfz36_2:=blk_frozen BK167.out 2)|((with_reducible refine gate_callee (f:=57) rfl ?_);refine goesL_ (some 6) rfl rfl Tryz.func57 (by kernel_rfl) rfl #[.agg #[.bool false,.string a0_1,.int .i64 a0_2]] rfl (by (try simp only [List.map_toArray,List.map_cons,List.map_nil]);first|done|rfl|(simp only [List.length_drop,List.length_take];rfl)) ?_;(with_reducible refine (impl_IsOrigin.calls k false a0_1 a0_2 true _ A3.out).mono ?_);rintro e w37 ⟨rfl,hb⟩;refine ⟨_,rfl,?_⟩;have n0_:=bb_ BK167 hb;have n1_:=bs_ HB hb;clear BK167;clear HB;have BK167:=n0_;have HB:=n1_;clear n0_ n1_;(try clear hb);(try clear hb2);(try clear hk);(try clear hi);have hcz38_0:w37.cell? ⟨gb167,0,none⟩=some (.bool false):=q_ BK167 0 rfl;have hcz38_1:w37.cell? ⟨gb167,1,none⟩=some (.string a0_1):=q_ BK167 1 rfl;have hcz38_2:w37.cell? ⟨gb167,2,none⟩=some (.int .i64 a0_2):=q_ BK167 2 rfl;have hfz38_0:=blk_frozen BK167.out 0;have hfz38_1:=blk_frozen BK167.out 1;have hfz38_2:=blk_frozen BK167.out 2))
   go_ret
   exact ⟨by first|rfl|(simp [errW_none,errW_some] <;> rfl)|(simp [*,errW_none,errW_some] <;> rfl),by repeat (first|(with_reducible first|exact HB.out|apply below_alloc|apply pw_below_drewN|apply below_drew1|refine below_set ?_ GE167.out)|exact HB.out)⟩
 ·replace c4:=Bool.eq_false_iff.mpr c4;subst c4
  rw [if_neg (show ¬ (false=true) by decide)] at H
  obtain rfl:=Option.some.inj H
  go_enter Tryz.func31,Tryz.ntmps31
  go_wp2_with (first|((with_reducible refine gate_dst (N:=2) rfl ?_);refine box_event ?hg (N:=2) ?hd (cs:=#[.bool a0_0,.string a0_1,.int .i64 a0_2]) (t:=28) ?hr ?_;(case hd => rfl);(case hg => rfl);(case hr => first|(go_simp;done)|(go_simp;rfl));intro gb167 hg w39 hbox hb;have n0_:=bs_ HB hb;have n1_:=Am4_ (hbox);have n2_:=gw_ hg HB;have n3_:=gw_ hg HB;clear HB;have HB:=n0_;have BK167:=n1_;have GW167:=n2_;have GE167:=n3_;clear n0_ n1_ n2_ n3_;clear hb hbox hg;have hcz40_0:w39.cell? ⟨gb167,0,none⟩=some (.bool a0_0):=q_ BK167 0 rfl;have hcz40_1:w39.cell? ⟨gb167,1,none⟩=some (.string a0_1):=q_ BK167 1 rfl;have hcz40_2:w39.cell? ⟨gb167,2,none⟩=some (.int .i64 a0_2):=q_ BK167 2 rfl;have hfz40_0:=blk_frozen BK167.out 0;have hfz40_1:=blk_frozen BK167.out 1;have hfz40_2:=blk_frozen BK167.out 2)|((with_reducible refine gate_callee (f:=57) rfl ?_);refine goesL_ (some 6) rfl rfl Tryz.func57 (by kernel_rfl) rfl #[.agg #[.bool a0_0,.string a0_1,.int .i64 a0_2]] rfl (by (try simp only [List.map_toArray,List.map_cons,List.map_nil]);first|done|rfl|(simp only [List.length_drop,List.length_take];rfl)) ?_;(with_reducible refine (impl_IsOrigin.calls k a0_0 a0_1 a0_2 false _ A3.out).mono ?_);rintro e w41 ⟨rfl,hb⟩;refine ⟨_,rfl,?_⟩;have n0_:=bb_ BK167 hb;have n1_:=bs_ HB hb;clear BK167;clear HB;have BK167:=n0_;have HB:=n1_;clear n0_ n1_;(try clear hb);(try clear hb2);(try clear hk);(try clear hi)))
  go_ret
  exact ⟨by first|rfl|(simp [errW_none,errW_some] <;> rfl)|(simp [*,errW_none,errW_some] <;> rfl),by repeat (first|(with_reducible first|exact HB.out|apply below_alloc|apply pw_below_drewN|apply below_drew1|refine below_set ?_ GE167.out)|exact HB.out)⟩

/-! ### impl_IsValidKey: function 100 -/
def impl_IsValidKey.f (a0:Int):Option (Bool):=(impl_InRange.f a0 1 2147483646).bind fun t172 => (some t172)
set_option maxHeartbeats 8000000 in
set_option maxRecDepth 100000 in
theorem impl_IsValidKey.calls (a0:Int) (r:Bool) (w:World) (h:impl_IsValidKey.f a0=some r) :
  Calls Tryz.prog 100 #[.int .i64 a0] w fun e w' => e=.returned (.bool r)∧Drawn0 w w':=by
 have H:((impl_InRange.f a0 1 2147483646).bind fun t172 => (some t172))=some r:=h;clear h;replace H:=Option.bind_eq_some_iff.mp H;obtain ⟨t172,A20,H⟩:=H
 try dsimp only at H
 have A2:=Am4_ A20;clear A20;obtain rfl:=Option.some.inj H
 go_enter Tryz.func100,Tryz.ntmps100
 go_wp2_with (first|((with_reducible refine gate_callee (f:=91) rfl ?_);refine goesL_ (some 4) rfl rfl Tryz.func91 (by kernel_rfl) rfl #[.int .i64 a0,.int .i64 1,.int .i64 2147483646] rfl (by (try simp only [List.map_toArray,List.map_cons,List.map_nil]);first|done|rfl|(simp only [List.length_drop,List.length_take];rfl)) ?_;(with_reducible refine (impl_InRange.calls a0 1 2147483646 t172 _ A2.out).mono ?_);rintro e w' ⟨rfl,⟨nd,rfl⟩⟩;refine ⟨_,rfl,?_⟩))
 go_ret
 exact ⟨by first|rfl|(simp;done)|(simp [*];done),by repeat (first|exact Drawn0.refl _|apply Drawn0.step)⟩

/-! ### impl_SignMessage: function 69 -/
def impl_SignMessage.f (k:Nat) (a0:Int) (l1:List Int):Option (Int):=(impl_IsValidKey.f a0).bind fun t173 => (if t173=true then ((impl_joined.f k (([139,(l1.length:Int)]:List Int)) (([l1]:List (List Int)))).bind fun t180 => ((impl_KeyedHash.f k a0 t180).bind fun t183 => (some t183))) else (some 0))
theorem impl_SignMessage.mono:∀ a0 a1 k,LeO (impl_SignMessage.f k a0 a1) (impl_SignMessage.f (k + 1) a0 a1):=by
 intro a0 a1 k
 unfold impl_SignMessage.f
 repeat' first
  |(with_reducible exact impl_KeyedHash.mono _ _ _)
  |(with_reducible exact impl_joined.mono _ _ _)
  |(with_reducible exact LeO.refl _)
  |(with_reducible exact LeO.none _)
  |(with_reducible refine LeO.ite ?_ ?_)
  |(with_reducible refine LeO.bind ?_ (fun _ => ?_))
  |exact impl_KeyedHash.mono _ _ _
  |exact impl_joined.mono _ _ _
  |exact LeO.none _
  |refine LeO.ite ?_ ?_
  |refine LeO.bind ?_ (fun _ => ?_)
set_option maxHeartbeats 8000000 in
set_option maxRecDepth 100000 in
theorem impl_SignMessage.calls (k:Nat) (a0:Int) (P1_:Nat → Prop) (A1:Option Addr) (c1:Nat) (l1:List Int) (r:Int) (w:World) (hs1:Kd.V (Kd.int .i64) 3 w w.heap.size (fun k_ => P1_ k_) (.slice A1 l1.length c1) l1) (h:impl_SignMessage.f k a0 l1=some r) :
  Calls Tryz.prog 69 #[.int .i64 a0,.slice A1 l1.length c1] w fun e w' => e=.returned (.int .i64 r)∧Below w.heap.size w w':=by
 have HO1:=Am4_ (show Kd.V (Kd.int .i64) 3 w w.heap.size (fun k_ => (P1_ k_ ∨ w.heap.size ≤ k_)) (.slice A1 l1.length c1) l1 from Kd.V_mono hs1 (fun k_ hk => .inl hk));have HB:=Am4_ (Below.refl w.heap.size w);have H:=h;unfold impl_SignMessage.f at H;clear h;replace H:=Option.bind_eq_some_iff.mp H;obtain ⟨t173,A30,H⟩:=H
 try dsimp only at H
 have A3:=Am4_ A30;clear A30
 by_cases c4:t173=true
 ·subst c4
  rw [if_pos rfl] at H
  obtain ⟨y174,hy174⟩:∃ y_:List Int,y_=(([139,(l1.length:Int)]:List Int)):=⟨_,rfl⟩;replace H:((impl_joined.f k y174 (([l1]:List (List Int)))).bind fun t180 => ((impl_KeyedHash.f k a0 t180).bind fun t183 => (some t183)))=some r:=by first|(rw [hy174];with_reducible exact H)|(have H2_:=(Option.bind_some _ _).symm.trans H;rw [hy174];with_reducible exact H2_)|(have H2_:=(Option.bind_some _ _).symm.trans H;with_reducible exact H2_)|with_reducible exact H|(rw [hy174];exact H)|exact H
  have Ny174:=Am4_ hy174;clear hy174;obtain ⟨y177,hy177⟩:∃ y_:List (List Int),y_=(([l1]:List (List Int))):=⟨_,rfl⟩;replace H:((impl_joined.f k y174 y177).bind fun t180 => ((impl_KeyedHash.f k a0 t180).bind fun t183 => (some t183)))=some r:=by first|(rw [hy177];with_reducible exact H)|(have H2_:=(Option.bind_some _ _).symm.trans H;rw [hy177];with_reducible exact H2_)|(have H2_:=(Option.bind_some _ _).symm.trans H;with_reducible exact H2_)|with_reducible exact H|(rw [hy177];exact H)|exact H
  have Ny177:=Am4_ hy177;clear hy177;replace H:=Option.bind_eq_some_iff.mp H;obtain ⟨t180,A50,H⟩:=H
  try dsimp only at H
  have A5:=Am4_ A50;clear A50;replace H:=Option.bind_eq_some_iff.mp H;obtain ⟨t183,A60,H⟩:=H
  try dsimp only at H
  have A6:=Am4_ A60;clear A60;obtain rfl:=Option.some.inj H
  go_enter Tryz.func69,Tryz.ntmps69
  go_wp2_with (first|((with_reducible refine gate_callee (f:=100) rfl ?_);refine goesL_ (some 6) rfl rfl Tryz.func100 (by kernel_rfl) rfl #[.int .i64 a0] rfl (by (try simp only [List.map_toArray,List.map_cons,List.map_nil]);first|done|rfl|(simp only [List.length_drop,List.length_take];rfl)) ?_;(with_reducible refine (impl_IsValidKey.calls a0 true _ A3.out).mono ?_);rintro e w' ⟨rfl,⟨nd,rfl⟩⟩;refine ⟨_,rfl,?_⟩)|((with_reducible refine gate_dst (N:=11) rfl ?_);refine Kd.R_lit (Kd.int .i64) _ 3 ?hg (N:=11) ?hd (xs:=([139,(l1.length:Int)]:List Int)) (inner:=[.int .i64 139,.int .i64 (l1.length:Int)]) (ok:=fun _ => True) (okp:=fun _ => True) ?hr ?hp (fun _ hk => hk) trivial (Below.refl _ _) (Nat.le_refl _) (by simp) ?_;(case hd => rfl);(case hg => rfl);(case hr => first|(go_simp;done)|(go_simp;rfl));(case hp => exact (Reps.one (show Kd.M (Kd.int .i64) _ _ _ 139 [.int .i64 139] from rfl) (Reps.one (show Kd.M (Kd.int .i64) _ _ _ (l1.length:Int) [.int .i64 (l1.length:Int)] from rfl) (Reps.none _ _))));intro v175 w7 ho8 hb hg_ hnew_;clear hg_ hnew_;(first|rw [← Ny174.out] at ho8|(simp only [Int.reduceToNat] at ho8;rw [← Ny174.out] at ho8));have n0_:=Am4_ (Kd.V_elder' (by (with_reducible repeat (first|apply Kd.V_alloc|apply Kd.V_drewN|apply Kd.V_drew));exact HO1.out) (Kd.R_base ho8) hb);have n1_:=Am4_ (Kd.R_lower (Kd.R_newM (M:=fun k_ => (w.heap.size ≤ k_)) ho8 (below_size (xe_ HB)) (fun k_ h_ => h_)) (below_size (xe_ HB)));have n2_:=bs_ HB hb;clear HO1;clear HB;have HO1:=n0_;have HO176:=n1_;have HB:=n2_;clear n0_ n1_ n2_;clear hb ho8)|((with_reducible refine gate_dst (N:=13) rfl ?_);refine Kd.N_lit (Kd.slice 3 (Kd.int .i64)) _ 47 ?hg (N':=13) ?hd (xs:=([l1]:List (List Int))) (inner:=[.slice A1 l1.length c1]) (ok:=(fun k_ => (P1_ k_ ∨ w.heap.size ≤ k_)∧some k_ ≠ (v175:Value).ownBlock)) (okp:=(fun k_ => (P1_ k_ ∨ w.heap.size ≤ k_)∧some k_ ≠ (v175:Value).ownBlock)) ?hr ?hp (fun _ hk => hk) ((show ∀ k_,w7.heap.size ≤ k_ → (fun k_ => (P1_ k_ ∨ w.heap.size ≤ k_)∧some k_ ≠ (v175:Value).ownBlock) k_ from fun k_ hk => ⟨(.inr (Nat.le_trans (below_size (xe_ HB)) hk)),Kd.fresh' (Kd.R_lt (by (with_reducible repeat (first|apply Kd.R_alloc|apply Kd.R_drewN|apply Kd.R_drew));exact HO176.out)) k_ hk⟩) _ (Nat.le_refl _)) (Below.refl _ _) (Nat.le_refl _) (by simp) ?_;(case hd => rfl);(case hg => rfl);(case hr => first|(go_simp;done)|(go_simp;rfl));(case hp => exact (Reps.one (show Kd.FK (Kd.slice 3 (Kd.int .i64)) _ _ l1 [.slice A1 l1.length c1] from (Kd.FK_slice_mk (Kd.V_reads' (Kd.V_mono (ok':=(fun k_ => (P1_ k_ ∨ w.heap.size ≤ k_)∧some k_ ≠ (v175:Value).ownBlock)) (HO1.out) (fun k_ hk => ⟨hk.1,hk.2⟩))).2.1 (Kd.V_F (Kd.V_mono (ok':=(fun k_ => (P1_ k_ ∨ w.heap.size ≤ k_)∧some k_ ≠ (v175:Value).ownBlock)) (HO1.out) (fun k_ hk => ⟨hk.1,hk.2⟩))))) (Reps.none _ _)));intro v178 w9 ho10 hb hg_ hnew_;clear hg_ hnew_;(first|rw [← Ny177.out] at ho10|(simp only [Int.reduceToNat] at ho10;rw [← Ny177.out] at ho10));have n0_:=Am4_ (Kd.V_elder' (by (with_reducible repeat (first|apply Kd.V_alloc|apply Kd.V_drewN|apply Kd.V_drew));exact HO1.out) (Kd.N_base ho10) hb);have n1_:=Am4_ (Kd.R_below (by (with_reducible repeat (first|apply Kd.R_alloc|apply Kd.R_drewN|apply Kd.R_drew));exact HO176.out) hb);have n2_:=Am4_ (Kd.N_lower ho10 (below_size (xe_ HB)));have n3_:=bs_ HB hb;clear HO1;clear HO176;clear HB;have HO1:=n0_;have HO176:=n1_;have HO179:=n2_;have HB:=n3_;clear n0_ n1_ n2_ n3_;clear hb ho10;obtain ⟨Ao11,co11,eo11⟩:=Kd.R_slice HO176.out;subst eo11;obtain ⟨Ao12,co12,eo12⟩:=Kd.N_slice HO179.out;subst eo12)|((with_reducible refine gate_callee (f:=42) rfl ?_);refine goesL_ (some 14) rfl rfl Tryz.func42 (by kernel_rfl) rfl #[.slice Ao11 y174.length co11,.slice Ao12 y177.length co12] rfl (by (try simp only [List.map_toArray,List.map_cons,List.map_nil]);first|done|rfl|(simp only [List.length_drop,List.length_take];rfl)) ?_;(with_reducible refine (impl_joined.calls k _ _ y174 _ _ y177 t180 _ ?side1 ?side2 ?side3 ?side4 A5.out).mono ?_);(case side1 => repeat (first|exact (Kd.R_reads' HO176.out).2.2|(with_reducible refine Kd.C_alloc ?_ _)|(with_reducible refine Kd.C_drewN ?_ _)|(with_reducible refine Kd.C_drew ?_)));(case side2 => exact (Kd.R_reads' HO176.out).2.1);(case side3 => repeat (first|exact (Kd.N_reads' HO179.out).2.2|(with_reducible refine Kd.C_alloc ?_ _)|(with_reducible refine Kd.C_drewN ?_ _)|(with_reducible refine Kd.C_drew ?_)));(case side4 => exact (Kd.N_reads' HO179.out).2.1);rintro e w13 ⟨v181,rfl,ho0,hb⟩;refine ⟨_,rfl,?_⟩;have n0_:=Am4_ (Kd.V_elder' (by (with_reducible repeat (first|apply Kd.V_alloc|apply Kd.V_drewN|apply Kd.V_drew));exact HO1.out) (Kd.R_base ho0) hb);have n1_:=Am4_ (Kd.R_elder' (by (with_reducible repeat (first|apply Kd.R_alloc|apply Kd.R_drewN|apply Kd.R_drew));exact HO176.out) (Kd.R_base ho0) hb);have n2_:=Am4_ (Kd.N_elder' (by (with_reducible repeat (first|apply Kd.N_alloc|apply Kd.N_drewN|apply Kd.N_drew));exact HO179.out) (Kd.R_base ho0) hb);have n3_:=Am4_ (Kd.R_lower (Kd.R_new' (Kd.R_newM (M:=fun k_ => (w.heap.size ≤ k_)) ho0 (below_size (xe_ HB)) (fun k_ h_ => h_)) (Kd.R_lt (by (with_reducible repeat (first|apply Kd.R_alloc|apply Kd.R_drewN|apply Kd.R_drew));exact HO176.out))) (below_size (xe_ HB)));have n4_:=bs_ HB hb;clear HO1;clear HO176;clear HO179;clear HB;have HO1:=n0_;have HO176:=n1_;have HO179:=n2_;have HO182:=n3_;have HB:=n4_;clear n0_ n1_ n2_ n3_ n4_;(try clear hb);(try clear hb2);(try clear hk);(try clear hi);(try clear ho0);obtain ⟨Ao14,co14,eo14⟩:=Kd.R_slice HO182.out;subst eo14)|((with_reducible refine gate_callee (f:=80) rfl ?_);refine goesL_ (some 15) rfl rfl Tryz.func80 (by kernel_rfl) rfl #[.int .i64 a0,.slice Ao14 t180.length co14] rfl (by (try simp only [List.map_toArray,List.map_cons,List.map_nil]);first|done|rfl|(simp only [List.length_drop,List.length_take];rfl)) ?_;(with_reducible refine (impl_KeyedHash.calls k a0 (fun k_ => some k_=(.slice Ao14 t180.length co14:Value).ownBlock) _ _ t180 t183 _ ?side1 A6.out).mono ?_);(case side1 => exact Kd.R_V (Kd.R_tight rfl (Kd.R_apart' (HO182.out) (Kd.N_typed HO179.out) (by decide))));rintro e w15 ⟨rfl,hb⟩;refine ⟨_,rfl,?_⟩;have n0_:=Am4_ (Kd.V_below (by (with_reducible repeat (first|apply Kd.V_alloc|apply Kd.V_drewN|apply Kd.V_drew));exact HO1.out) hb);have n1_:=Am4_ (Kd.R_below (by (with_reducible repeat (first|apply Kd.R_alloc|apply Kd.R_drewN|apply Kd.R_drew));exact HO176.out) hb);have n2_:=Am4_ (Kd.N_below (by (with_reducible repeat (first|apply Kd.N_alloc|apply Kd.N_drewN|apply Kd.N_drew));exact HO179.out) hb);have n3_:=Am4_ (Kd.R_below (by (with_reducible repeat (first|apply Kd.R_alloc|apply Kd.R_drewN|apply Kd.R_drew));exact HO182.out) hb);have n4_:=bs_ HB hb;clear HO1;clear HO176;clear HO179;clear HO182;clear HB;have HO1:=n0_;have HO176:=n1_;have HO179:=n2_;have HO182:=n3_;have HB:=n4_;clear n0_ n1_ n2_ n3_ n4_;(try clear hb);(try clear hb2);(try clear hk);(try clear hi)))
  go_ret
  exact ⟨by first|rfl|(simp [errW_none,errW_some] <;> rfl)|(simp [*,errW_none,errW_some] <;> rfl),by repeat (first|(with_reducible first|exact HB.out|apply below_alloc|apply pw_below_drewN|apply below_drew1)|exact HB.out)⟩
 ·replace c4:=Bool.eq_false_iff.mpr c4;subst c4
  rw [if_neg (show ¬ (false=true) by decide)] at H
  obtain rfl:=Option.some.inj H
  go_enter Tryz.func69,Tryz.ntmps69
  go_wp2_with (first|((with_reducible refine gate_callee (f:=100) rfl ?_);refine goesL_ (some 6) rfl rfl Tryz.func100 (by kernel_rfl) rfl #[.int .i64 a0] rfl (by (try simp only [List.map_toArray,List.map_cons,List.map_nil]);first|done|rfl|(simp only [List.length_drop,List.length_take];rfl)) ?_;(with_reducible refine (impl_IsValidKey.calls a0 false _ A3.out).mono ?_);rintro e w' ⟨rfl,⟨nd,rfl⟩⟩;refine ⟨_,rfl,?_⟩))
  go_ret
  exact ⟨by first|rfl|(simp [errW_none,errW_some] <;> rfl)|(simp [*,errW_none,errW_some] <;> rfl),by repeat (first|(with_reducible first|exact HB.out|apply below_alloc|apply pw_below_drewN|apply below_drew1)|exact HB.out)⟩

/-! ### impl_power: function 102 -/
def impl_power.l0:Nat → Int → Int → Int → Int → Option (Int)
|0,_,_,_,_ => none
|k + 1,x0,x1,x2,x7 => if x1 > 0 then (if (Int.tmod x1 2)=1 then (if x2=0 then (none) else (impl_power.l0 k (Int.tmod (wrap64 (x0 * x0)) x2) (wrap64 (Int.tdiv x1 2)) x2 (Int.tmod (wrap64 (x7 * x0)) x2))) else (if x2=0 then (none) else (impl_power.l0 k (Int.tmod (wrap64 (x0 * x0)) x2) (wrap64 (Int.tdiv x1 2)) x2 x7))) else (some x7)
def impl_power.f (k:Nat) (a0:Int) (a1:Int) (a2:Int):Option (Int):=if a2=0 then (none) else (impl_power.l0 k (Int.tmod a0 a2) a1 a2 ((1:Int) % a2))
theorem impl_power.mono_l:∀ k,(∀ y0 y1 y2 y3,LeO (impl_power.l0 k y0 y1 y2 y3) (impl_power.l0 (k + 1) y0 y1 y2 y3))
|0 => fun _ _ _ _ r h => by simp [impl_power.l0] at h
|k + 1 => by
  have ih0:=impl_power.mono_l k
  ·intro y0 y1 y2 y3
   unfold impl_power.l0
   repeat' first
  |(with_reducible exact ih0 _ _ _ _)
  |(with_reducible exact LeO.refl _)
  |(with_reducible exact LeO.none _)
  |(with_reducible refine LeO.ite ?_ ?_)
  |(with_reducible refine LeO.bind ?_ (fun _ => ?_))
  |exact ih0 _ _ _ _
  |exact LeO.none _
  |refine LeO.ite ?_ ?_
  |refine LeO.bind ?_ (fun _ => ?_)
theorem impl_power.mono:∀ a0 a1 a2 k,LeO (impl_power.f k a0 a1 a2) (impl_power.f (k + 1) a0 a1 a2):=by
 intro a0 a1 a2 k;have ih0:=impl_power.mono_l k
 unfold impl_power.f
 repeat' first
  |(with_reducible exact ih0 _ _ _ _)
  |(with_reducible exact LeO.refl _)
  |(with_reducible exact LeO.none _)
  |(with_reducible refine LeO.ite ?_ ?_)
  |(with_reducible refine LeO.bind ?_ (fun _ => ?_))
  |exact ih0 _ _ _ _
  |exact LeO.none _
  |refine LeO.ite ?_ ?_
  |refine LeO.bind ?_ (fun _ => ?_)
set_option maxHeartbeats 8000000 in
set_option maxRecDepth 100000 in
theorem impl_power.calls (k:Nat) (a0:Int) (a1:Int) (a2:Int) (r:Int) (w:World) (h:impl_power.f k a0 a1 a2=some r) :
  Calls Tryz.prog 102 #[.int .i64 a0,.int .i64 a1,.int .i64 a2] w fun e w' => e=.returned (.int .i64 r)∧Drawn0 w w':=by
 have H:(if a2=0 then (none) else (impl_power.l0 k (Int.tmod a0 a2) a1 a2 ((1:Int) % a2)))=some r:=h;clear h
 by_cases c4:a2=0
 ·rw [if_pos c4] at H
  exact absurd H (by simp)
 ·rw [if_neg c4] at H
  have c4b0:(a2 == 0)=false:=beq_eq_false_iff_ne.mpr c4;have c4b1:(a2 != 0)=true:=bne_iff_ne.mpr c4;have H':=Am4_ H;clear H
  go_enter Tryz.func102,Tryz.ntmps102
  go_wp2
  go_loopg [0,1,7] k (fun kq v0 v1 v7 w' => ∃ (x0_1:Int) (x1_1:Int) (x7_1:Int),v0=.int .i64 x0_1∧v1=.int .i64 x1_1∧v7=.int .i64 x7_1∧Aside0 (impl_power.l0 kq x0_1 x1_1 a2 x7_1=some r)∧Aside0 (kq ≤ k)∧Drawn0 w w')
  case atStart => exact ⟨(Int.tmod a0 a2),(a1),((1:Int) % a2),(by first|rfl|(simp;done)|(simp [*];done)),(by first|rfl|(simp;done)|(simp [*];done)),(by first|rfl|(simp;done)|(simp [*];done)),H',⟨Nat.le_refl _⟩,by repeat (first|exact Drawn0.refl _|apply Drawn0.step)⟩
  case round =>
   clear H'
   try clear c1
   try clear p2
   try clear c4
   try clear c4b0
   try clear c4b1
   obtain ⟨x0_1,x1_1,x7_1,rfl,rfl,rfl,HA,HK1,⟨m1,rfl⟩⟩:=hrel
   cases gk with
  |zero => exact absurd HA.out (by simp [impl_power.l0])
  |succ k1 =>
    have H:=HA.out;clear HA;simp only [impl_power.l0] at H
    by_cases c5:x1_1 > 0
    ·rw [if_pos c5] at H
     have c5b0:decide (0 < x1_1)=true:=decide_eq_true c5;clear c5
     by_cases c6:(Int.tmod x1_1 2)=1
     ·rw [if_pos c6] at H
      have c6b0:((Int.tmod x1_1 2) == 1)=true:=beq_iff_eq.mpr c6;have c6b1:((Int.tmod x1_1 2) != 1)=false:=bne_eq_false_iff_eq.mpr c6;clear c6
      by_cases c7:a2=0
      ·rw [if_pos c7] at H
       exact absurd H (by simp)
      ·rw [if_neg c7] at H
       have c7b0:(a2 == 0)=false:=beq_eq_false_iff_ne.mpr c7;have c7b1:(a2 != 0)=true:=bne_iff_ne.mpr c7;have H':=Am4_ H;clear H
       go_wp2
       go_roundg k1
       case measure => have:=HK1.out;omega
       case rel => exact ⟨(Int.tmod (wrap64 (x0_1 * x0_1)) a2),(wrap64 (Int.tdiv x1_1 2)),(Int.tmod (wrap64 (x7_1 * x0_1)) a2),(by first|rfl|(simp;done)|(simp [*];done)),(by first|rfl|(simp;done)|(simp [*];done)),(by first|rfl|(simp;done)|(simp [*];done)),H',⟨by have:=HK1.out;omega⟩,by repeat (first|exact Drawn0.refl _|apply Drawn0.step)⟩
     ·rw [if_neg c6] at H
      have c6b0:((Int.tmod x1_1 2) == 1)=false:=beq_eq_false_iff_ne.mpr c6;have c6b1:((Int.tmod x1_1 2) != 1)=true:=bne_iff_ne.mpr c6
      by_cases c8:a2=0
      ·rw [if_pos c8] at H
       exact absurd H (by simp)
      ·rw [if_neg c8] at H
       have c8b0:(a2 == 0)=false:=beq_eq_false_iff_ne.mpr c8;have c8b1:(a2 != 0)=true:=bne_iff_ne.mpr c8;have H':=Am4_ H;clear H
       go_wp2
       go_roundg k1
       case measure => have:=HK1.out;omega
       case rel => exact ⟨(Int.tmod (wrap64 (x0_1 * x0_1)) a2),(wrap64 (Int.tdiv x1_1 2)),(x7_1),(by first|rfl|(simp;done)|(simp [*];done)),(by first|rfl|(simp;done)|(simp [*];done)),(by first|rfl|(simp;done)|(simp [*];done)),H',⟨by have:=HK1.out;omega⟩,by repeat (first|exact Drawn0.refl _|apply Drawn0.step)⟩
    ·rw [if_neg c5] at H
     have c5b0:decide (0 < x1_1)=false:=decide_eq_false c5;clear c5;obtain rfl:=Option.some.inj H
     go_wp2
     go_ret
     exact ⟨by first|rfl|(simp;done)|(simp [*];done),by repeat (first|exact Drawn0.refl _|apply Drawn0.step)⟩

/-! ### impl_PrivateKey: function 72 -/
def impl_PrivateKey.f (k:Nat) (a0:Int):Option (Int):=(impl_IsValidKey.f a0).bind fun t184 => (if t184=true then ((impl_power.f k 48271 2147483645 2147483647).bind fun t185 => (some (Int.tmod (wrap64 (a0 * t185)) 2147483647))) else (some 0))
theorem impl_PrivateKey.mono:∀ a0 k,LeO (impl_PrivateKey.f k a0) (impl_PrivateKey.f (k + 1) a0):=by
 intro a0 k
 unfold impl_PrivateKey.f
 repeat' first
  |(with_reducible exact impl_power.mono _ _ _ _)
  |(with_reducible exact LeO.refl _)
  |(with_reducible exact LeO.none _)
  |(with_reducible refine LeO.ite ?_ ?_)
  |(with_reducible refine LeO.bind ?_ (fun _ => ?_))
  |exact impl_power.mono _ _ _ _
  |exact LeO.none _
  |refine LeO.ite ?_ ?_
  |refine LeO.bind ?_ (fun _ => ?_)
set_option maxHeartbeats 8000000 in
set_option maxRecDepth 100000 in
theorem impl_PrivateKey.calls (k:Nat) (a0:Int) (r:Int) (w:World) (h:impl_PrivateKey.f k a0=some r) :
  Calls Tryz.prog 72 #[.int .i64 a0] w fun e w' => e=.returned (.int .i64 r)∧Drawn0 w w':=by
 have H:=h;unfold impl_PrivateKey.f at H;clear h;replace H:=Option.bind_eq_some_iff.mp H;obtain ⟨t184,A20,H⟩:=H
 try dsimp only at H
 have A2:=Am4_ A20;clear A20
 by_cases c3:t184=true
 ·subst c3
  rw [if_pos rfl] at H
  replace H:=Option.bind_eq_some_iff.mp H;obtain ⟨t185,A40,H⟩:=H
  try dsimp only at H
  have A4:=Am4_ A40;clear A40;obtain rfl:=Option.some.inj H
  go_enter Tryz.func72,Tryz.ntmps72
  go_wp2_with (first|((with_reducible refine gate_callee (f:=100) rfl ?_);refine goesL_ (some 4) rfl rfl Tryz.func100 (by kernel_rfl) rfl #[.int .i64 a0] rfl (by (try simp only [List.map_toArray,List.map_cons,List.map_nil]);first|done|rfl|(simp only [List.length_drop,List.length_take];rfl)) ?_;(with_reducible refine (impl_IsValidKey.calls a0 true _ A2.out).mono ?_);rintro e w' ⟨rfl,⟨nd,rfl⟩⟩;refine ⟨_,rfl,?_⟩)|((with_reducible refine gate_callee (f:=102) rfl ?_);refine goesL_ (some 7) rfl rfl Tryz.func102 (by kernel_rfl) rfl #[.int .i64 48271,.int .i64 2147483645,.int .i64 2147483647] rfl (by (try simp only [List.map_toArray,List.map_cons,List.map_nil]);first|done|rfl|(simp only [List.length_drop,List.length_take];rfl)) ?_;(with_reducible refine (impl_power.calls k 48271 2147483645 2147483647 t185 _ A4.out).mono ?_);rintro e w' ⟨rfl,⟨nd,rfl⟩⟩;refine ⟨_,rfl,?_⟩))
  go_ret
  exact ⟨by first|rfl|(simp;done)|(simp [*];done),by repeat (first|exact Drawn0.refl _|apply Drawn0.step)⟩
 ·replace c3:=Bool.eq_false_iff.mpr c3;subst c3
  rw [if_neg (show ¬ (false=true) by decide)] at H
  obtain rfl:=Option.some.inj H
  go_enter Tryz.func72,Tryz.ntmps72
  go_wp2_with (first|((with_reducible refine gate_callee (f:=100) rfl ?_);refine goesL_ (some 4) rfl rfl Tryz.func100 (by kernel_rfl) rfl #[.int .i64 a0] rfl (by (try simp only [List.map_toArray,List.map_cons,List.map_nil]);first|done|rfl|(simp only [List.length_drop,List.length_take];rfl)) ?_;(with_reducible refine (impl_IsValidKey.calls a0 false _ A2.out).mono ?_);rintro e w' ⟨rfl,⟨nd,rfl⟩⟩;refine ⟨_,rfl,?_⟩))
  go_ret
  exact ⟨by first|rfl|(simp;done)|(simp [*];done),by repeat (first|exact Drawn0.refl _|apply Drawn0.step)⟩

/-! ### impl_VerifySignature: function 41 -/
def impl_VerifySignature.f (k:Nat) (a0:Int) (l1:List Int) (a2:Int):Option (Bool):=(impl_PrivateKey.f k a0).bind fun t186 => (if t186=0 then (some false) else ((impl_SignMessage.f k t186 l1).bind fun t187 => (some (t187 == a2))))
theorem impl_VerifySignature.mono:∀ a0 a1 a2 k,LeO (impl_VerifySignature.f k a0 a1 a2) (impl_VerifySignature.f (k + 1) a0 a1 a2):=by
 intro a0 a1 a2 k
 unfold impl_VerifySignature.f
 repeat' first
  |(with_reducible exact impl_PrivateKey.mono _ _)
  |(with_reducible exact impl_SignMessage.mono _ _ _)
  |(with_reducible exact LeO.refl _)
  |(with_reducible exact LeO.none _)
  |(with_reducible refine LeO.ite ?_ ?_)
  |(with_reducible refine LeO.bind ?_ (fun _ => ?_))
  |exact impl_PrivateKey.mono _ _
  |exact impl_SignMessage.mono _ _ _
  |exact LeO.none _
  |refine LeO.ite ?_ ?_
  |refine LeO.bind ?_ (fun _ => ?_)
set_option maxHeartbeats 8000000 in
set_option maxRecDepth 100000 in
theorem impl_VerifySignature.calls (k:Nat) (a0:Int) (A1:Option Addr) (c1:Nat) (l1:List Int) (a2:Int) (r:Bool) (w:World) (hr1:Kd.C (Kd.int .i64) w A1 l1.length l1) (hc1:l1.length ≤ c1) (h:impl_VerifySignature.f k a0 l1 a2=some r) :
  Calls Tryz.prog 41 #[.int .i64 a0,.slice A1 l1.length c1,.int .i64 a2] w fun e w' => e=.returned (.bool r)∧Below w.heap.size w w':=by
 have HR1:=Am4_ hr1;have HC1:=Am4_ hc1;clear hr1 hc1;have HB:=Am4_ (Below.refl w.heap.size w);have H:=h;unfold impl_VerifySignature.f at H;clear h;replace H:=Option.bind_eq_some_iff.mp H;obtain ⟨t186,A40,H⟩:=H
 try dsimp only at H
 have A4:=Am4_ A40;clear A40
 by_cases c5:t186=0
 ·rw [if_pos c5] at H
  have c5b0:(t186 == 0)=true:=beq_iff_eq.mpr c5;have c5b1:(t186 != 0)=false:=bne_eq_false_iff_eq.mpr c5;clear c5;obtain rfl:=Option.some.inj H
  go_enter Tryz.func41,Tryz.ntmps41
  go_wp2_with (first|((with_reducible refine gate_callee (f:=72) rfl ?_);refine goesL_ (some 9) rfl rfl Tryz.func72 (by kernel_rfl) rfl #[.int .i64 a0] rfl (by (try simp only [List.map_toArray,List.map_cons,List.map_nil]);first|done|rfl|(simp only [List.length_drop,List.length_take];rfl)) ?_;(with_reducible refine (impl_PrivateKey.calls k a0 t186 _ A4.out).mono ?_);rintro e w' ⟨rfl,⟨nd,rfl⟩⟩;refine ⟨_,rfl,?_⟩))
  go_ret
  exact ⟨by first|rfl|(simp [errW_none,errW_some] <;> rfl)|(simp [*,errW_none,errW_some] <;> rfl),by repeat (first|(with_reducible first|exact HB.out|apply below_alloc|apply pw_below_drewN|apply below_drew1)|exact HB.out)⟩
 ·rw [if_neg c5] at H
  have c5b0:(t186 == 0)=false:=beq_eq_false_iff_ne.mpr c5;have c5b1:(t186 != 0)=true:=bne_iff_ne.mpr c5;replace H:=Option.bind_eq_some_iff.mp H;obtain ⟨t187,A60,H⟩:=H
  try dsimp only at H
  have A6:=Am4_ A60;clear A60;obtain rfl:=Option.some.inj H
  go_enter Tryz.func41,Tryz.ntmps41
  go_wp2_with (first|((with_reducible refine gate_callee (f:=72) rfl ?_);refine goesL_ (some 9) rfl rfl Tryz.func72 (by kernel_rfl) rfl #[.int .i64 a0] rfl (by (try simp only [List.map_toArray,List.map_cons,List.map_nil]);first|done|rfl|(simp only [List.length_drop,List.length_take];rfl)) ?_;(with_reducible refine (impl_PrivateKey.calls k a0 t186 _ A4.out).mono ?_);rintro e w' ⟨rfl,⟨nd,rfl⟩⟩;refine ⟨_,rfl,?_⟩)|(go_at_call 69;(with_reducible refine (impl_SignMessage.calls k t186 (fun k_ => k_ < w.heap.size) _ _ l1 t187 _ ?side1 A6.out).mono ?_);(case side1 => exact Kd.V_mk HC1.out (Kd.F_below (Kd.C_F (Kd.heap_int .i64) HR1.out) (xe_ HB)));rintro e w7 ⟨rfl,hb⟩;have n0_:=bs_ HB hb;clear HB;have HB:=n0_;clear n0_;(try clear hb);(try clear hb2);(try clear hk);(try clear hi)))
  go_ret
  exact ⟨by first|rfl|(simp [errW_none,errW_some] <;> rfl)|(simp [*,errW_none,errW_some] <;> rfl),by repeat (first|(with_reducible first|exact HB.out|apply below_alloc|apply pw_below_drewN|apply below_drew1)|exact HB.out)⟩

end Go.Proofs.YtogcoedmagoogaaGreatDoor.PFnExactCheckAssertion
