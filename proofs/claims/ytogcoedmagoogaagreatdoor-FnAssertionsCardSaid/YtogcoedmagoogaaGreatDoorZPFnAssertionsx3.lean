/- Functions and contracts of a law's callees, written by a program of this session (a changed print): each contract says that the machine's call answers what the plain function says. Conditions: the plain function's own answer. -/
import Derived.Test.YtogcoedmagoogaaGreatDoorZPFnAssertionsx0
import Derived.Test.YtogcoedmagoogaaGreatDoorZPFnAssertionsx1
import Derived.Test.YtogcoedmagoogaaGreatDoorZPFnAssertionsx2
namespace Go.Proofs.YtogcoedmagoogaaGreatDoor.PFnAssertions
open Go.RowKit Go.Proofs.YtogcoedmagoogaaGreatDoorW.PrintWords Go.Proofs.YtogcoedmagoogaaGreatDoorW.PrintLast Go.Proofs.YtogcoedmagoogaaGreatDoorW.PrintMore
attribute [local go_sem] max2_int min2_int max_two min_two max_three min_three max_four min_four   -- for this text's walks alone
set_option linter.unusedVariables false
set_option linter.unusedSimpArgs false
abbrev Am3_ {p : Prop} (h : p) : Aside0 p := Aside0.mk h

namespace Y3
class Ex_ (w W:World):Prop where
 k:∀ {g:Nat} {o:Obj},w.heap[g]?=some o → W.heap[g]?=some o
 e:∀ {v:World},Below v.heap.size v w → Below v.heap.size v W
instance (priority:=low) Ex_.rf (w:World):Ex_ w w:=⟨fun h => h,fun h => h⟩
instance Ex_.dn {w W:World} [x:Ex_ w W] (n:Nat):Ex_ w (W.drewN n):=⟨fun h => blk_drewN (x.k h) n,fun h => pw_below_drewN (x.e h) n⟩
instance Ex_.dr {w W:World} [x:Ex_ w W]:Ex_ w W.drew:=⟨fun h => blk_drew (x.k h),fun h => below_drew1 (x.e h)⟩
instance Ex_.al {w W:World} [x:Ex_ w W] (o:Obj):Ex_ w (W.alloc o):=⟨fun h => blk_alloc (x.k h) o,fun h => below_alloc (x.e h) o⟩
theorem xk_ {w W:World} {g:Nat} {o:Obj} (h:Aside0 (w.heap[g]?=some o)) [x:Ex_ w W]:W.heap[g]?=some o:=x.k h.out
theorem ne1_ {w W:World} {g g':Nat} {o:Obj} (hg:g'=W.heap.size) (h:Aside0 (w.heap[g]?=some o)) [x:Ex_ w W]:Aside0 (g ≠ g'):=Am3_ (by rw [hg];exact Nat.ne_of_lt (blk_lt (x.k h.out)))
theorem ne2_ {w W:World} {g g':Nat} {o:Obj} (hg:g'=W.heap.size) (h:Aside0 (w.heap[g]?=some o)) [x:Ex_ w W]:Aside0 (g' ≠ g):=Am3_ (by rw [hg];exact Nat.ne_of_gt (blk_lt (x.k h.out)))
theorem gw_ {v w W:World} {g':Nat} (hg:g'=W.heap.size) (h:Aside0 (Below v.heap.size v w)) [x:Ex_ w W]:Aside0 (v.heap.size ≤ g'):=Am3_ (by rw [hg];exact below_size (x.e h.out))
theorem bb_ {w W W':World} {g:Nat} {o:Obj} (h:Aside0 (w.heap[g]?=some o)) (hb:Below W.heap.size W W') [x:Ex_ w W]:Aside0 (W'.heap[g]?=some o):=Am3_ (blk_below (x.k h.out) hb)
theorem bs_ {v w W W':World} (h:Aside0 (Below v.heap.size v w)) (hb:Below W.heap.size W W') [x:Ex_ w W]:Aside0 (Below v.heap.size v W'):=Am3_ (below_step (x.e h.out) hb)
theorem xe_ {v w W:World} (h:Aside0 (Below v.heap.size v w)) [x:Ex_ w W]:Below v.heap.size v W:=x.e h.out
end Y3
open Y3

namespace Y3
abbrev Sa_ := @List.setIfInBounds_toArray
abbrev Sb_ := @List.set_cons_zero
abbrev Sc_ := @List.set_cons_succ
theorem q_ {w W : World} {g : Nat} {t : TypeId} {cs : Array Value} (h : Aside0 (w.heap[g]? = some (.cells cs t (0, 0)))) (i : Nat) {v : Option Value} (e : cs[i]? = v) [x : Ex_ w W] : W.cell? ⟨g, i, none⟩ = v := (blk_cell (x.k h.out) i).trans e
end Y3
open Y3
/-! ### impl_IsOrigin: function 57 -/
def impl_IsOrigin.f (k:Nat) (a0_0:Bool) (a0_1:ByteArray) (a0_2:Int):Option (Bool):=(impl_IsHost.f k a0_1).bind fun t147 => (if t147=true then ((impl_InRange.f a0_2 1 65535).bind fun t148 => (some t148)) else (some false))
theorem impl_IsOrigin.mono:∀ a0 a1 a2 k,LeO (impl_IsOrigin.f k a0 a1 a2) (impl_IsOrigin.f (k + 1) a0 a1 a2):=by
 intro a0 a1 a2 k
 unfold impl_IsOrigin.f
 repeat' first
  |(with_reducible exact impl_IsHost.mono _ _)
  |(with_reducible exact LeO.refl _)
  |(with_reducible exact LeO.none _)
  |(with_reducible refine LeO.ite ?_ ?_)
  |(with_reducible refine LeO.bind ?_ (fun _ => ?_))
  |exact impl_IsHost.mono _ _
  |exact LeO.none _
  |refine LeO.ite ?_ ?_
  |refine LeO.bind ?_ (fun _ => ?_)
set_option maxHeartbeats 8000000 in
set_option maxRecDepth 100000 in
theorem impl_IsOrigin.calls (k:Nat) (a0_0:Bool) (a0_1:ByteArray) (a0_2:Int) (r:Bool) (w:World) (h:impl_IsOrigin.f k a0_0 a0_1 a0_2=some r) :
  Calls Tryz.prog 57 #[.agg #[.bool a0_0,.string a0_1,.int .i64 a0_2]] w fun e w' => e=.returned (.bool r)∧Below w.heap.size w w':=by
 have hu28:=Tryz.underlying28;have HB:=Am3_ (Below.refl w.heap.size w);have H:=h;unfold impl_IsOrigin.f at H;clear h;replace H:=Option.bind_eq_some_iff.mp H;obtain ⟨t147,A20,H⟩:=H
 try dsimp only at H
 have A2:=Am3_ A20;clear A20
 by_cases c3:t147=true
 ·subst c3
  rw [if_pos rfl] at H
  replace H:=Option.bind_eq_some_iff.mp H;obtain ⟨t148,A40,H⟩:=H
  try dsimp only at H
  have A4:=Am3_ A40;clear A40;obtain rfl:=Option.some.inj H
  go_enter Tryz.func57,Tryz.ntmps57
  go_wp2_with (first|((with_reducible refine gate_dst (N:=1) rfl ?_);refine box_event ?hg (N:=1) ?hd (cs:=#[.bool a0_0,.string a0_1,.int .i64 a0_2]) (t:=28) ?hr ?_;(case hd => rfl);(case hg => rfl);(case hr => first|(go_simp;done)|(go_simp;rfl));intro gb146 hg w5 hbox hb;have n0_:=bs_ HB hb;have n1_:=Am3_ (hbox);have n2_:=gw_ hg HB;have n3_:=gw_ hg HB;clear HB;have HB:=n0_;have BK146:=n1_;have GW146:=n2_;have GE146:=n3_;clear n0_ n1_ n2_ n3_;clear hb hbox hg;have hcz6_0:w5.cell? ⟨gb146,0,none⟩=some (.bool a0_0):=q_ BK146 0 rfl;have hcz6_1:w5.cell? ⟨gb146,1,none⟩=some (.string a0_1):=q_ BK146 1 rfl;have hcz6_2:w5.cell? ⟨gb146,2,none⟩=some (.int .i64 a0_2):=q_ BK146 2 rfl;have hfz6_0:=blk_frozen BK146.out 0;have hfz6_1:=blk_frozen BK146.out 1;have hfz6_2:=blk_frozen BK146.out 2)|((with_reducible refine gate_callee (f:=35) rfl ?_);refine goesL_ (some 5) rfl rfl Tryz.func35 (by kernel_rfl) rfl #[.string a0_1] rfl (by (try simp only [List.map_toArray,List.map_cons,List.map_nil]);first|done|rfl|(simp only [List.length_drop,List.length_take];rfl)) ?_;(with_reducible refine (impl_IsHost.calls k a0_1 true _ A2.out).mono ?_);rintro e w7 ⟨rfl,hb⟩;refine ⟨_,rfl,?_⟩;have n0_:=bb_ BK146 hb;have n1_:=bs_ HB hb;clear BK146;clear HB;have BK146:=n0_;have HB:=n1_;clear n0_ n1_;(try clear hb);(try clear hb2);(try clear hk);(try clear hi);have hcz8_0:w7.cell? ⟨gb146,0,none⟩=some (.bool a0_0):=q_ BK146 0 rfl;have hcz8_1:w7.cell? ⟨gb146,1,none⟩=some (.string a0_1):=q_ BK146 1 rfl;have hcz8_2:w7.cell? ⟨gb146,2,none⟩=some (.int .i64 a0_2):=q_ BK146 2 rfl;have hfz8_0:=blk_frozen BK146.out 0;have hfz8_1:=blk_frozen BK146.out 1;have hfz8_2:=blk_frozen BK146.out 2)|(go_at_call 91;(with_reducible refine (impl_InRange.calls a0_2 1 65535 t148 _ A4.out).mono ?_);rintro e w' ⟨rfl,⟨nd,rfl⟩⟩))
  go_ret
  exact ⟨by first|rfl|(simp [errW_none,errW_some] <;> rfl)|(simp [*,errW_none,errW_some] <;> rfl),by repeat (first|(with_reducible first|exact HB.out|apply below_alloc|apply pw_below_drewN|apply below_drew1|refine below_set ?_ GE146.out)|exact HB.out)⟩
 ·replace c3:=Bool.eq_false_iff.mpr c3;subst c3
  rw [if_neg (show ¬ (false=true) by decide)] at H
  obtain rfl:=Option.some.inj H
  go_enter Tryz.func57,Tryz.ntmps57
  go_wp2_with (first|((with_reducible refine gate_dst (N:=1) rfl ?_);refine box_event ?hg (N:=1) ?hd (cs:=#[.bool a0_0,.string a0_1,.int .i64 a0_2]) (t:=28) ?hr ?_;(case hd => rfl);(case hg => rfl);(case hr => first|(go_simp;done)|(go_simp;rfl));intro gb146 hg w9 hbox hb;have n0_:=bs_ HB hb;have n1_:=Am3_ (hbox);have n2_:=gw_ hg HB;have n3_:=gw_ hg HB;clear HB;have HB:=n0_;have BK146:=n1_;have GW146:=n2_;have GE146:=n3_;clear n0_ n1_ n2_ n3_;clear hb hbox hg;have hcz10_0:w9.cell? ⟨gb146,0,none⟩=some (.bool a0_0):=q_ BK146 0 rfl;have hcz10_1:w9.cell? ⟨gb146,1,none⟩=some (.string a0_1):=q_ BK146 1 rfl;have hcz10_2:w9.cell? ⟨gb146,2,none⟩=some (.int .i64 a0_2):=q_ BK146 2 rfl;have hfz10_0:=blk_frozen BK146.out 0;have hfz10_1:=blk_frozen BK146.out 1;have hfz10_2:=blk_frozen BK146.out 2)|((with_reducible refine gate_callee (f:=35) rfl ?_);refine goesL_ (some 5) rfl rfl Tryz.func35 (by kernel_rfl) rfl #[.string a0_1] rfl (by (try simp only [List.map_toArray,List.map_cons,List.map_nil]);first|done|rfl|(simp only [List.length_drop,List.length_take];rfl)) ?_;(with_reducible refine (impl_IsHost.calls k a0_1 false _ A2.out).mono ?_);rintro e w11 ⟨rfl,hb⟩;refine ⟨_,rfl,?_⟩;have n0_:=bb_ BK146 hb;have n1_:=bs_ HB hb;clear BK146;clear HB;have BK146:=n0_;have HB:=n1_;clear n0_ n1_;(try clear hb);(try clear hb2);(try clear hk);(try clear hi)))
  go_ret
  exact ⟨by first|rfl|(simp [errW_none,errW_some] <;> rfl)|(simp [*,errW_none,errW_some] <;> rfl),by repeat (first|(with_reducible first|exact HB.out|apply below_alloc|apply pw_below_drewN|apply below_drew1|refine below_set ?_ GE146.out)|exact HB.out)⟩


/-! ### strconv_Itoa: function 90 -/
def strconv_Itoa.f (a0:Int):Option (ByteArray):=if -9223372036854775808 ≤ a0∧a0 ≤ 9223372036854775807 then some (⟨(Lib.itoa a0).toArray⟩) else none
theorem strconv_Itoa.calls (a0:Int) (r:ByteArray) (w:World) (ht_:Man.Tab w) (h:strconv_Itoa.f a0=some r) :
  Calls Tryz.prog 90 #[.int .i64 a0] w fun e w' => e=.returned (.string r)∧Below w.heap.size w w':=by
 unfold strconv_Itoa.f at h
 by_cases hc:-9223372036854775808 ≤ a0∧a0 ≤ 9223372036854775807
 case neg => rw [if_neg hc] at h;cases h
 rw [if_pos hc] at h
 obtain rfl:=Option.some.inj h;refine (Any.strconv_Itoa Tryz.laysM171 a0 hc.1 hc.2 w ht_.tab).mono fun e w' ⟨he,k,os,hw⟩ => ⟨he,?_⟩
 rw [hw]
 exact Man.below_grow w k os

/-! ### impl_FormatInt: function 58 -/
def impl_FormatInt.f (a0:Int):Option (ByteArray):=(strconv_Itoa.f a0).bind fun t149 => (some t149)
set_option maxHeartbeats 8000000 in
set_option maxRecDepth 100000 in
theorem impl_FormatInt.calls (a0:Int) (r:ByteArray) (w:World) (ht_:Man.Tab w) (h:impl_FormatInt.f a0=some r) :
  Calls Tryz.prog 58 #[.int .i64 a0] w fun e w' => e=.returned (.string r)∧Below w.heap.size w w':=by
 have HT:=Am3_ ht_;clear ht_;have HB:=Am3_ (Below.refl w.heap.size w);have H:((strconv_Itoa.f a0).bind fun t149 => (some t149))=some r:=h;clear h;replace H:=Option.bind_eq_some_iff.mp H;obtain ⟨t149,A20,H⟩:=H
 try dsimp only at H
 have A2:=Am3_ A20;clear A20;obtain rfl:=Option.some.inj H
 go_enter Tryz.func58,Tryz.ntmps58
 go_wp2_with (first|((with_reducible refine gate_callee (f:=90) rfl ?_);refine goesL_ (some 4) rfl rfl Tryz.func90 (by kernel_rfl) rfl #[.int .i64 a0] rfl (by (try simp only [List.map_toArray,List.map_cons,List.map_nil]);first|done|rfl|(simp only [List.length_drop,List.length_take];rfl)) ?_;(with_reducible refine (strconv_Itoa.calls (ht_:=Man.tab_on HT.out (xe_ HB)) a0 t149 _ A2.out).mono ?_);rintro e w3 ⟨rfl,hb⟩;refine ⟨_,rfl,?_⟩;have n0_:=bs_ HB hb;clear HB;have HB:=n0_;clear n0_;(try clear hb);(try clear hb2);(try clear hk);(try clear hi)))
 go_ret
 exact ⟨by first|rfl|(simp [errW_none,errW_some] <;> rfl)|(simp [*,errW_none,errW_some] <;> rfl),by repeat (first|(with_reducible first|exact HB.out|apply below_alloc|apply pw_below_drewN|apply below_drew1)|exact HB.out)⟩

/-! ### impl_FormatOrigin: function 26 -/
def impl_FormatOrigin.f (k:Nat) (a0_0:Bool) (a0_1:ByteArray) (a0_2:Int):Option (ByteArray):=(impl_IsOrigin.f k a0_0 a0_1 a0_2).bind fun t151 => (if t151=true then (if a0_0=true then (if a0_2=443 then (if 8 + a0_1.size ≤ 9223372036854775807 then (some ((⟨#[104,116,116,112,115,58,47,47]⟩:ByteArray) ++ a0_1)) else (none)) else (if 8 + a0_1.size ≤ 9223372036854775807 then (if ((⟨#[104,116,116,112,115,58,47,47]⟩:ByteArray) ++ a0_1).size + 1 ≤ 9223372036854775807 then ((impl_FormatInt.f a0_2).bind fun t152 => (if (((⟨#[104,116,116,112,115,58,47,47]⟩:ByteArray) ++ a0_1) ++ (⟨#[58]⟩:ByteArray)).size + t152.size ≤ 9223372036854775807 then (some ((((⟨#[104,116,116,112,115,58,47,47]⟩:ByteArray) ++ a0_1) ++ (⟨#[58]⟩:ByteArray)) ++ t152)) else (none))) else (none)) else (none))) else (if a0_2=80 then (if 7 + a0_1.size ≤ 9223372036854775807 then (some ((⟨#[104,116,116,112,58,47,47]⟩:ByteArray) ++ a0_1)) else (none)) else (if 7 + a0_1.size ≤ 9223372036854775807 then (if ((⟨#[104,116,116,112,58,47,47]⟩:ByteArray) ++ a0_1).size + 1 ≤ 9223372036854775807 then ((impl_FormatInt.f a0_2).bind fun t153 => (if (((⟨#[104,116,116,112,58,47,47]⟩:ByteArray) ++ a0_1) ++ (⟨#[58]⟩:ByteArray)).size + t153.size ≤ 9223372036854775807 then (some ((((⟨#[104,116,116,112,58,47,47]⟩:ByteArray) ++ a0_1) ++ (⟨#[58]⟩:ByteArray)) ++ t153)) else (none))) else (none)) else (none)))) else (some (⟨#[]⟩:ByteArray)))
theorem impl_FormatOrigin.mono:∀ a0 a1 a2 k,LeO (impl_FormatOrigin.f k a0 a1 a2) (impl_FormatOrigin.f (k + 1) a0 a1 a2):=by
 intro a0 a1 a2 k
 unfold impl_FormatOrigin.f
 repeat' first
  |(with_reducible exact impl_IsOrigin.mono _ _ _ _)
  |(with_reducible exact LeO.refl _)
  |(with_reducible exact LeO.none _)
  |(with_reducible refine LeO.ite ?_ ?_)
  |(with_reducible refine LeO.bind ?_ (fun _ => ?_))
  |exact impl_IsOrigin.mono _ _ _ _
  |exact LeO.none _
  |refine LeO.ite ?_ ?_
  |refine LeO.bind ?_ (fun _ => ?_)
def impl_FormatOrigin.T10:Bool × List (List Nat × List Nat):=(true,[([],[]),([],[]),([1],[1]),([0,2],[0,2]),([3],[3]),([],[]),([5],[5]),([6],[6]),([4,7],[4,7]),([8,7,0,1,2,3,4,5,6,7,8],[8])])
def impl_FormatOrigin.B10:List Nat:=[0,0,2,7,15,0,32,96,255,511]
theorem impl_FormatOrigin.tab10:rtab .any (opsOf Tryz.f26 10)=impl_FormatOrigin.T10:=by kernel_rfl
theorem impl_FormatOrigin.bits10:waitsOk impl_FormatOrigin.T10.2 impl_FormatOrigin.B10=true:=by kernel_rfl
set_option maxHeartbeats 8000000 in
set_option maxRecDepth 100000 in
theorem impl_FormatOrigin.calls (k:Nat) (a0_0:Bool) (a0_1:ByteArray) (a0_2:Int) (r:ByteArray) (w:World) (ht_:Man.Tab w) (h:impl_FormatOrigin.f k a0_0 a0_1 a0_2=some r) :
  Calls Tryz.prog 26 #[.agg #[.bool a0_0,.string a0_1,.int .i64 a0_2]] w fun e w' => e=.returned (.string r)∧Below w.heap.size w w':=by
 have HT:=Am3_ ht_;clear ht_;have hu28:=Tryz.underlying28;have HB:=Am3_ (Below.refl w.heap.size w);have H:=h;unfold impl_FormatOrigin.f at H;clear h;replace H:=Option.bind_eq_some_iff.mp H;obtain ⟨t151,A20,H⟩:=H
 try dsimp only at H
 have A2:=Am3_ A20;clear A20
 by_cases c3:t151=true
 ·subst c3
  rw [if_pos rfl] at H
  by_cases c4:a0_0=true
  ·subst c4
   rw [if_pos rfl] at H
   by_cases c5:a0_2=443
   ·rw [if_pos c5] at H
    have c5b0:(a0_2 == 443)=true:=beq_iff_eq.mpr c5;have c5b1:(a0_2 != 443)=false:=bne_eq_false_iff_eq.mpr c5;clear c5
    by_cases c6:8 + a0_1.size ≤ 9223372036854775807
    ·rw [if_pos c6] at H
     have c6b0:=eq_true c6;have c6b1:decide (8 + a0_1.size ≤ 9223372036854775807)=true:=decide_eq_true c6
     try have c6b2:(9223372036854775807 < 8 + a0_1.size)=False:=eq_false (Nat.not_lt.2 c6)
     obtain rfl:=Option.some.inj H
     go_enter Tryz.func26,Tryz.ntmps26
     go_wp2_with (first|((with_reducible refine gate_dst (N:=1) rfl ?_);refine box_event ?hg (N:=1) ?hd (cs:=#[.bool true,.string a0_1,.int .i64 a0_2]) (t:=28) ?hr ?_;(case hd => rfl);(case hg => rfl);(case hr => first|(go_simp;done)|(go_simp;rfl));intro gb150 hg w7 hbox hb;have n0_:=bs_ HB hb;have n1_:=Am3_ (hbox);have n2_:=gw_ hg HB;have n3_:=gw_ hg HB;clear HB;have HB:=n0_;have BK150:=n1_;have GW150:=n2_;have GE150:=n3_;clear n0_ n1_ n2_ n3_;clear hb hbox hg;have hcz8_0:w7.cell? ⟨gb150,0,none⟩=some (.bool true):=q_ BK150 0 rfl;have hcz8_1:w7.cell? ⟨gb150,1,none⟩=some (.string a0_1):=q_ BK150 1 rfl;have hcz8_2:w7.cell? ⟨gb150,2,none⟩=some (.int .i64 a0_2):=q_ BK150 2 rfl;have hfz8_0:=blk_frozen BK150.out 0;have hfz8_1:=blk_frozen BK150.out 1;have hfz8_2:=blk_frozen BK150.out 2)|((with_reducible refine gate_callee (f:=57) rfl ?_);refine goesL_ (some 6) rfl rfl Tryz.func57 (by kernel_rfl) rfl #[.agg #[.bool true,.string a0_1,.int .i64 a0_2]] rfl (by (try simp only [List.map_toArray,List.map_cons,List.map_nil]);first|done|rfl|(simp only [List.length_drop,List.length_take];rfl)) ?_;(with_reducible refine (impl_IsOrigin.calls k true a0_1 a0_2 true _ A2.out).mono ?_);rintro e w9 ⟨rfl,hb⟩;refine ⟨_,rfl,?_⟩;have n0_:=bb_ BK150 hb;have n1_:=bs_ HB hb;clear BK150;clear HB;have BK150:=n0_;have HB:=n1_;clear n0_ n1_;(try clear hb);(try clear hb2);(try clear hk);(try clear hi);have hcz10_0:w9.cell? ⟨gb150,0,none⟩=some (.bool true):=q_ BK150 0 rfl;have hcz10_1:w9.cell? ⟨gb150,1,none⟩=some (.string a0_1):=q_ BK150 1 rfl;have hcz10_2:w9.cell? ⟨gb150,2,none⟩=some (.int .i64 a0_2):=q_ BK150 2 rfl;have hfz10_0:=blk_frozen BK150.out 0;have hfz10_1:=blk_frozen BK150.out 1;have hfz10_2:=blk_frozen BK150.out 2))
     go_ret
     exact ⟨by first|rfl|(simp [errW_none,errW_some] <;> rfl)|(simp [*,errW_none,errW_some] <;> rfl),by repeat (first|(with_reducible first|exact HB.out|apply below_alloc|apply pw_below_drewN|apply below_drew1|refine below_set ?_ GE150.out)|exact HB.out)⟩
    ·rw [if_neg c6] at H
     exact absurd H (by simp)
   ·rw [if_neg c5] at H
    have c5b0:(a0_2 == 443)=false:=beq_eq_false_iff_ne.mpr c5;have c5b1:(a0_2 != 443)=true:=bne_iff_ne.mpr c5
    by_cases c11:8 + a0_1.size ≤ 9223372036854775807
    ·rw [if_pos c11] at H
     have c11b0:=eq_true c11;have c11b1:decide (8 + a0_1.size ≤ 9223372036854775807)=true:=decide_eq_true c11
     try have c11b2:(9223372036854775807 < 8 + a0_1.size)=False:=eq_false (Nat.not_lt.2 c11)
     by_cases c12:((⟨#[104,116,116,112,115,58,47,47]⟩:ByteArray) ++ a0_1).size + 1 ≤ 9223372036854775807
     ·rw [if_pos c12] at H
      have c12b0:=eq_true c12;have c12b1:decide (((⟨#[104,116,116,112,115,58,47,47]⟩:ByteArray) ++ a0_1).size + 1 ≤ 9223372036854775807)=true:=decide_eq_true c12
      try have c12b2:(9223372036854775807 < ((⟨#[104,116,116,112,115,58,47,47]⟩:ByteArray) ++ a0_1).size + 1)=False:=eq_false (Nat.not_lt.2 c12)
      have c12b3:(9223372036854775807 < 8 + a0_1.size + 1)=False:=by
       have e:=c12b2;simp only [ByteArray.size_append] at e;exact e
      replace H:=Option.bind_eq_some_iff.mp H;obtain ⟨t152,A130,H⟩:=H
      try dsimp only at H
      have A13:=Am3_ A130;clear A130
      by_cases c14:(((⟨#[104,116,116,112,115,58,47,47]⟩:ByteArray) ++ a0_1) ++ (⟨#[58]⟩:ByteArray)).size + t152.size ≤ 9223372036854775807
      ·rw [if_pos c14] at H
       have c14b0:=eq_true c14;have c14b1:decide ((((⟨#[104,116,116,112,115,58,47,47]⟩:ByteArray) ++ a0_1) ++ (⟨#[58]⟩:ByteArray)).size + t152.size ≤ 9223372036854775807)=true:=decide_eq_true c14
       try have c14b2:(9223372036854775807 < (((⟨#[104,116,116,112,115,58,47,47]⟩:ByteArray) ++ a0_1) ++ (⟨#[58]⟩:ByteArray)).size + t152.size)=False:=eq_false (Nat.not_lt.2 c14)
       have c14b3:(9223372036854775807 < 8 + a0_1.size + 1 + t152.size)=False:=by
        have e:=c14b2;simp only [ByteArray.size_append] at e;exact e
       obtain rfl:=Option.some.inj H
       go_enter Tryz.func26,Tryz.ntmps26
       try go_wp2_with (first|((with_reducible refine gate_dst (N:=1) rfl ?_);refine box_event ?hg (N:=1) ?hd (cs:=#[.bool true,.string a0_1,.int .i64 a0_2]) (t:=28) ?hr ?_;(case hd => rfl);(case hg => rfl);(case hr => first|(go_simp;done)|(go_simp;rfl));intro gb150 hg w15 hbox hb;have n0_:=bs_ HB hb;have n1_:=Am3_ (hbox);have n2_:=gw_ hg HB;have n3_:=gw_ hg HB;clear HB;have HB:=n0_;have BK150:=n1_;have GW150:=n2_;have GE150:=n3_;clear n0_ n1_ n2_ n3_;clear hb hbox hg;have hcz16_0:w15.cell? ⟨gb150,0,none⟩=some (.bool true):=q_ BK150 0 rfl;have hcz16_1:w15.cell? ⟨gb150,1,none⟩=some (.string a0_1):=q_ BK150 1 rfl;have hcz16_2:w15.cell? ⟨gb150,2,none⟩=some (.int .i64 a0_2):=q_ BK150 2 rfl;have hfz16_0:=blk_frozen BK150.out 0;have hfz16_1:=blk_frozen BK150.out 1;have hfz16_2:=blk_frozen BK150.out 2)|((with_reducible refine gate_callee (f:=57) rfl ?_);refine goesL_ (some 6) rfl rfl Tryz.func57 (by kernel_rfl) rfl #[.agg #[.bool true,.string a0_1,.int .i64 a0_2]] rfl (by (try simp only [List.map_toArray,List.map_cons,List.map_nil]);first|done|rfl|(simp only [List.length_drop,List.length_take];rfl)) ?_;(with_reducible refine (impl_IsOrigin.calls k true a0_1 a0_2 true _ A2.out).mono ?_);rintro e w17 ⟨rfl,hb⟩;refine ⟨_,rfl,?_⟩;have n0_:=bb_ BK150 hb;have n1_:=bs_ HB hb;clear BK150;clear HB;have BK150:=n0_;have HB:=n1_;clear n0_ n1_;(try clear hb);(try clear hb2);(try clear hk);(try clear hi);have hcz18_0:w17.cell? ⟨gb150,0,none⟩=some (.bool true):=q_ BK150 0 rfl;have hcz18_1:w17.cell? ⟨gb150,1,none⟩=some (.string a0_1):=q_ BK150 1 rfl;have hcz18_2:w17.cell? ⟨gb150,2,none⟩=some (.int .i64 a0_2):=q_ BK150 2 rfl;have hfz18_0:=blk_frozen BK150.out 0;have hfz18_1:=blk_frozen BK150.out 1;have hfz18_2:=blk_frozen BK150.out 2))
       replace BK150:=Am3_ (blk_drew BK150.out);replace HB:=Am3_ (below_drew1 HB.out);refine start_ (n:=10) (S:=fun w' => w'.cell? ⟨gb150,0,none⟩=some (.bool true)∧w'.cell? ⟨gb150,1,none⟩=some (.string a0_1)∧w'.cell? ⟨gb150,2,none⟩=some (.int .i64 a0_2)) (ds:=[]) #[false,false,false,false,false,false,false,false,false,false] (by kernel_rfl) rfl rfl ⟨q_ BK150 0 rfl,q_ BK150 1 rfl,q_ BK150 2 rfl⟩ (fun hHeld => ?_);refine with_tabW impl_FormatOrigin.tab10 impl_FormatOrigin.bits10 (fun HT_ HW_ => ?_);generalize w17.drew=w19 at BK150 HB hHeld ⊢;refine pure_ (i:=0) (N:=some 18) (v:=?_) (a':=?_) #[true,false,false,false,false,false,false,false,false,false] rfl rfl (any_of HT_.out (by kernel_rfl)) (fun _ _ _ h => h) (Or.inl ⟨by rfl,?_⟩) ?_ ?_;rotate_left
       ·intro w'
        go_simp
        with_reducible rfl
       rotate_left
       ·simp only [Act.put,Sa_,Sb_,Sc_,i64_w,i32_w]
        rfl
       refine pure_ (i:=1) (N:=some 19) (v:=?_) (a':=?_) #[true,true,false,false,false,false,false,false,false,false] rfl rfl (any_of HT_.out (by kernel_rfl)) (fun _ _ _ h => h) (Or.inl ⟨by rfl,?_⟩) ?_ ?_;rotate_left
       ·intro w'
        go_simp
        with_reducible rfl
       rotate_left
       ·simp only [Act.put,Sa_,Sb_,Sc_,i64_w,i32_w]
        rfl
       refine pure_ (i:=5) (N:=some 23) (v:=?_) (a':=?_) #[true,true,false,false,false,true,false,false,false,false] rfl rfl (any_of HT_.out (by kernel_rfl)) (fun _ _ _ h => h) (Or.inl ⟨by rfl,?_⟩) ?_ ?_;rotate_left
       ·intro w'
        go_simp
        with_reducible rfl
       rotate_left
       ·simp only [Act.put,Sa_,Sb_,Sc_,i64_w,i32_w]
        rfl
       refine take_ (i:=2) (N:=some 20) (v:=?_) (a':=?_) #[true,true,true,false,false,true,false,false,false,false] rfl rfl (take_ofW HT_.out HW_.out (by kernel_rfl)) (fun _ _ _ h => h) (Or.inl ⟨by rfl,?_⟩) hHeld ?_ ?_;rotate_left
       ·rintro w' ⟨s0,s1,s2⟩
        go_simp
        with_reducible rfl
       rotate_left
       ·simp only [Act.put,Sa_,Sb_,Sc_,i64_w,i32_w]
        rfl
       refine pure_ (i:=3) (N:=some 21) (v:=?_) (a':=?_) #[true,true,true,true,false,true,false,false,false,false] rfl rfl (any_of HT_.out (by kernel_rfl)) (fun _ _ _ h => h) (Or.inl ⟨by rfl,?_⟩) ?_ ?_;rotate_left
       ·intro w'
        go_simp
        with_reducible rfl
       rotate_left
       ·simp only [Act.put,Sa_,Sb_,Sc_,i64_w,i32_w]
        rfl
       refine pure_ (i:=4) (N:=some 22) (v:=?_) (a':=?_) #[true,true,true,true,true,true,false,false,false,false] rfl rfl (any_of HT_.out (by kernel_rfl)) (fun _ _ _ h => h) (Or.inl ⟨by rfl,?_⟩) ?_ ?_;rotate_left
       ·intro w'
        go_simp
        with_reducible rfl
       rotate_left
       ·simp only [Act.put,Sa_,Sb_,Sc_,i64_w,i32_w]
        rfl
       refine take_ (i:=6) (N:=some 24) (v:=?_) (a':=?_) #[true,true,true,true,true,true,true,false,false,false] rfl rfl (take_ofW HT_.out HW_.out (by kernel_rfl)) (fun _ _ _ h => h) (Or.inl ⟨by rfl,?_⟩) hHeld ?_ ?_;rotate_left
       ·rintro w' ⟨s0,s1,s2⟩
        go_simp
        with_reducible rfl
       rotate_left
       ·simp only [Act.put,Sa_,Sb_,Sc_,i64_w,i32_w]
        rfl
       refine one_ (i:=7) (N:=some 25) #[true,true,true,true,true,true,true,true,false,false] rfl rfl (one_of HT_.out (by kernel_rfl)) (by decide) (fun K hK => ?_);refine goes_ Tryz.func58 (by kernel_rfl) rfl #[.int .i64 a0_2] (by rfl) rfl rfl (by (try simp only [List.map_toArray,List.map_cons,List.map_nil]);first|done|rfl|(simp only [List.length_drop,List.length_take];rfl)) ?_;with_reducible refine (impl_FormatInt.calls (ht_:=Man.tab_on HT.out (xe_ HB)) a0_2 t152 _ A13.out).mono ?_;rintro e w20 ⟨rfl,hb⟩;refine ⟨_,rfl,?_⟩;replace BK150:=bb_ BK150 hb;replace HB:=bs_ HB hb;(try clear hb);(try clear hb2);(try clear hk);(try clear hi);refine hK.out _ _ ⟨q_ BK150 0 rfl,q_ BK150 1 rfl,q_ BK150 2 rfl⟩ (fun hHeld => ?_);clear hK K;refine norm_ (a':=?_) ?_ ?_;rotate_left
       ·show Act.put _ (some 25) _=_
        simp only [Act.put,Sa_,Sb_,Sc_,i64_w,i32_w]
        rfl
       refine pure_ (i:=8) (N:=some 26) (v:=?_) (a':=?_) #[true,true,true,true,true,true,true,true,true,false] rfl rfl (any_of HT_.out (by kernel_rfl)) (fun _ _ _ h => h) (Or.inl ⟨by rfl,?_⟩) ?_ ?_;rotate_left
       ·intro w'
        go_simp
        with_reducible rfl
       rotate_left
       ·simp only [Act.put,Sa_,Sb_,Sc_,i64_w,i32_w]
        rfl
       refine pure_ (i:=9) (N:=some 2) (v:=?_) (a':=?_) #[true,true,true,true,true,true,true,true,true,true] rfl rfl (any_of HT_.out (by kernel_rfl)) (fun _ _ _ h => h) (Or.inl ⟨by rfl,?_⟩) ?_ ?_;rotate_left
       ·intro w'
        go_simp
        with_reducible rfl
       rotate_left
       ·simp only [Act.put,Sa_,Sb_,Sc_,i64_w,i32_w]
        rfl
       refine done_ (done_of HT_.out (by kernel_rfl)) ?_
       try go_wp2
       go_ret
       exact ⟨by first|rfl|(simp [errW_none,errW_some] <;> rfl)|(simp [*,errW_none,errW_some] <;> rfl),by repeat (first|(with_reducible first|exact HB.out|apply below_alloc|apply pw_below_drewN|apply below_drew1|refine below_set ?_ GE150.out)|exact HB.out)⟩
      ·rw [if_neg c14] at H
       exact absurd H (by simp)
     ·rw [if_neg c12] at H
      exact absurd H (by simp)
    ·rw [if_neg c11] at H
     exact absurd H (by simp)
  ·replace c4:=Bool.eq_false_iff.mpr c4;subst c4
   rw [if_neg (show ¬ (false=true) by decide)] at H
   by_cases c21:a0_2=80
   ·rw [if_pos c21] at H
    have c21b0:(a0_2 == 80)=true:=beq_iff_eq.mpr c21;have c21b1:(a0_2 != 80)=false:=bne_eq_false_iff_eq.mpr c21;clear c21
    by_cases c22:7 + a0_1.size ≤ 9223372036854775807
    ·rw [if_pos c22] at H
     have c22b0:=eq_true c22;have c22b1:decide (7 + a0_1.size ≤ 9223372036854775807)=true:=decide_eq_true c22
     try have c22b2:(9223372036854775807 < 7 + a0_1.size)=False:=eq_false (Nat.not_lt.2 c22)
     obtain rfl:=Option.some.inj H
     go_enter Tryz.func26,Tryz.ntmps26
     go_wp2_with (first|((with_reducible refine gate_dst (N:=1) rfl ?_);refine box_event ?hg (N:=1) ?hd (cs:=#[.bool false,.string a0_1,.int .i64 a0_2]) (t:=28) ?hr ?_;(case hd => rfl);(case hg => rfl);(case hr => first|(go_simp;done)|(go_simp;rfl));intro gb150 hg w23 hbox hb;have n0_:=bs_ HB hb;have n1_:=Am3_ (hbox);have n2_:=gw_ hg HB;have n3_:=gw_ hg HB;clear HB;have HB:=n0_;have BK150:=n1_;have GW150:=n2_;have GE150:=n3_;clear n0_ n1_ n2_ n3_;clear hb hbox hg;have hcz24_0:w23.cell? ⟨gb150,0,none⟩=some (.bool false):=q_ BK150 0 rfl;have hcz24_1:w23.cell? ⟨gb150,1,none⟩=some (.string a0_1):=q_ BK150 1 rfl;have hcz24_2:w23.cell? ⟨gb150,2,none⟩=some (.int .i64 a0_2):=q_ BK150 2 rfl;have hfz24_0:=blk_frozen BK150.out 0;have hfz24_1:=blk_frozen BK150.out 1;have hfz24_2:=blk_frozen BK150.out 2)|((with_reducible refine gate_callee (f:=57) rfl ?_);refine goesL_ (some 6) rfl rfl Tryz.func57 (by kernel_rfl) rfl #[.agg #[.bool false,.string a0_1,.int .i64 a0_2]] rfl (by (try simp only [List.map_toArray,List.map_cons,List.map_nil]);first|done|rfl|(simp only [List.length_drop,List.length_take];rfl)) ?_;(with_reducible refine (impl_IsOrigin.calls k false a0_1 a0_2 true _ A2.out).mono ?_);rintro e w25 ⟨rfl,hb⟩;refine ⟨_,rfl,?_⟩;have n0_:=bb_ BK150 hb;have n1_:=bs_ HB hb;clear BK150;clear HB;have BK150:=n0_;have HB:=n1_;clear n0_ n1_;(try clear hb);(try clear hb2);(try clear hk);(try clear hi);have hcz26_0:w25.cell? ⟨gb150,0,none⟩=some (.bool false):=q_ BK150 0 rfl;have hcz26_1:w25.cell? ⟨gb150,1,none⟩=some (.string a0_1):=q_ BK150 1 rfl;have hcz26_2:w25.cell? ⟨gb150,2,none⟩=some (.int .i64 a0_2):=q_ BK150 2 rfl;have hfz26_0:=blk_frozen BK150.out 0;have hfz26_1:=blk_frozen BK150.out 1;have hfz26_2:=blk_frozen BK150.out 2))
     go_ret
     exact ⟨by first|rfl|(simp [errW_none,errW_some] <;> rfl)|(simp [*,errW_none,errW_some] <;> rfl),by repeat (first|(with_reducible first|exact HB.out|apply below_alloc|apply pw_below_drewN|apply below_drew1|refine below_set ?_ GE150.out)|exact HB.out)⟩
    ·rw [if_neg c22] at H
     exact absurd H (by simp)
   ·rw [if_neg c21] at H
    have c21b0:(a0_2 == 80)=false:=beq_eq_false_iff_ne.mpr c21;have c21b1:(a0_2 != 80)=true:=bne_iff_ne.mpr c21
    by_cases c27:7 + a0_1.size ≤ 9223372036854775807
    ·rw [if_pos c27] at H
     have c27b0:=eq_true c27;have c27b1:decide (7 + a0_1.size ≤ 9223372036854775807)=true:=decide_eq_true c27
     try have c27b2:(9223372036854775807 < 7 + a0_1.size)=False:=eq_false (Nat.not_lt.2 c27)
     by_cases c28:((⟨#[104,116,116,112,58,47,47]⟩:ByteArray) ++ a0_1).size + 1 ≤ 9223372036854775807
     ·rw [if_pos c28] at H
      have c28b0:=eq_true c28;have c28b1:decide (((⟨#[104,116,116,112,58,47,47]⟩:ByteArray) ++ a0_1).size + 1 ≤ 9223372036854775807)=true:=decide_eq_true c28
      try have c28b2:(9223372036854775807 < ((⟨#[104,116,116,112,58,47,47]⟩:ByteArray) ++ a0_1).size + 1)=False:=eq_false (Nat.not_lt.2 c28)
      have c28b3:(9223372036854775807 < 7 + a0_1.size + 1)=False:=by
       have e:=c28b2;simp only [ByteArray.size_append] at e;exact e
      replace H:=Option.bind_eq_some_iff.mp H;obtain ⟨t153,A290,H⟩:=H
      try dsimp only at H
      have A29:=Am3_ A290;clear A290
      by_cases c30:(((⟨#[104,116,116,112,58,47,47]⟩:ByteArray) ++ a0_1) ++ (⟨#[58]⟩:ByteArray)).size + t153.size ≤ 9223372036854775807
      ·rw [if_pos c30] at H
       have c30b0:=eq_true c30;have c30b1:decide ((((⟨#[104,116,116,112,58,47,47]⟩:ByteArray) ++ a0_1) ++ (⟨#[58]⟩:ByteArray)).size + t153.size ≤ 9223372036854775807)=true:=decide_eq_true c30
       try have c30b2:(9223372036854775807 < (((⟨#[104,116,116,112,58,47,47]⟩:ByteArray) ++ a0_1) ++ (⟨#[58]⟩:ByteArray)).size + t153.size)=False:=eq_false (Nat.not_lt.2 c30)
       have c30b3:(9223372036854775807 < 7 + a0_1.size + 1 + t153.size)=False:=by
        have e:=c30b2;simp only [ByteArray.size_append] at e;exact e
       obtain rfl:=Option.some.inj H
       go_enter Tryz.func26,Tryz.ntmps26
       try go_wp2_with (first|((with_reducible refine gate_dst (N:=1) rfl ?_);refine box_event ?hg (N:=1) ?hd (cs:=#[.bool false,.string a0_1,.int .i64 a0_2]) (t:=28) ?hr ?_;(case hd => rfl);(case hg => rfl);(case hr => first|(go_simp;done)|(go_simp;rfl));intro gb150 hg w31 hbox hb;have n0_:=bs_ HB hb;have n1_:=Am3_ (hbox);have n2_:=gw_ hg HB;have n3_:=gw_ hg HB;clear HB;have HB:=n0_;have BK150:=n1_;have GW150:=n2_;have GE150:=n3_;clear n0_ n1_ n2_ n3_;clear hb hbox hg;have hcz32_0:w31.cell? ⟨gb150,0,none⟩=some (.bool false):=q_ BK150 0 rfl;have hcz32_1:w31.cell? ⟨gb150,1,none⟩=some (.string a0_1):=q_ BK150 1 rfl;have hcz32_2:w31.cell? ⟨gb150,2,none⟩=some (.int .i64 a0_2):=q_ BK150 2 rfl;have hfz32_0:=blk_frozen BK150.out 0;have hfz32_1:=blk_frozen BK150.out 1;have hfz32_2:=blk_frozen BK150.out 2)|((with_reducible refine gate_callee (f:=57) rfl ?_);refine goesL_ (some 6) rfl rfl Tryz.func57 (by kernel_rfl) rfl #[.agg #[.bool false,.string a0_1,.int .i64 a0_2]] rfl (by (try simp only [List.map_toArray,List.map_cons,List.map_nil]);first|done|rfl|(simp only [List.length_drop,List.length_take];rfl)) ?_;(with_reducible refine (impl_IsOrigin.calls k false a0_1 a0_2 true _ A2.out).mono ?_);rintro e w33 ⟨rfl,hb⟩;refine ⟨_,rfl,?_⟩;have n0_:=bb_ BK150 hb;have n1_:=bs_ HB hb;clear BK150;clear HB;have BK150:=n0_;have HB:=n1_;clear n0_ n1_;(try clear hb);(try clear hb2);(try clear hk);(try clear hi);have hcz34_0:w33.cell? ⟨gb150,0,none⟩=some (.bool false):=q_ BK150 0 rfl;have hcz34_1:w33.cell? ⟨gb150,1,none⟩=some (.string a0_1):=q_ BK150 1 rfl;have hcz34_2:w33.cell? ⟨gb150,2,none⟩=some (.int .i64 a0_2):=q_ BK150 2 rfl;have hfz34_0:=blk_frozen BK150.out 0;have hfz34_1:=blk_frozen BK150.out 1;have hfz34_2:=blk_frozen BK150.out 2))
       replace BK150:=Am3_ (blk_drew BK150.out);replace HB:=Am3_ (below_drew1 HB.out);refine start_ (n:=10) (S:=fun w' => w'.cell? ⟨gb150,0,none⟩=some (.bool false)∧w'.cell? ⟨gb150,1,none⟩=some (.string a0_1)∧w'.cell? ⟨gb150,2,none⟩=some (.int .i64 a0_2)) (ds:=[]) #[false,false,false,false,false,false,false,false,false,false] (by kernel_rfl) rfl rfl ⟨q_ BK150 0 rfl,q_ BK150 1 rfl,q_ BK150 2 rfl⟩ (fun hHeld => ?_);refine with_tabW impl_FormatOrigin.tab10 impl_FormatOrigin.bits10 (fun HT_ HW_ => ?_);generalize w33.drew=w35 at BK150 HB hHeld ⊢;refine pure_ (i:=0) (N:=some 18) (v:=?_) (a':=?_) #[true,false,false,false,false,false,false,false,false,false] rfl rfl (any_of HT_.out (by kernel_rfl)) (fun _ _ _ h => h) (Or.inl ⟨by rfl,?_⟩) ?_ ?_;rotate_left
       ·intro w'
        go_simp
        with_reducible rfl
       rotate_left
       ·simp only [Act.put,Sa_,Sb_,Sc_,i64_w,i32_w]
        rfl
       refine pure_ (i:=1) (N:=some 19) (v:=?_) (a':=?_) #[true,true,false,false,false,false,false,false,false,false] rfl rfl (any_of HT_.out (by kernel_rfl)) (fun _ _ _ h => h) (Or.inl ⟨by rfl,?_⟩) ?_ ?_;rotate_left
       ·intro w'
        go_simp
        with_reducible rfl
       rotate_left
       ·simp only [Act.put,Sa_,Sb_,Sc_,i64_w,i32_w]
        rfl
       refine pure_ (i:=5) (N:=some 23) (v:=?_) (a':=?_) #[true,true,false,false,false,true,false,false,false,false] rfl rfl (any_of HT_.out (by kernel_rfl)) (fun _ _ _ h => h) (Or.inl ⟨by rfl,?_⟩) ?_ ?_;rotate_left
       ·intro w'
        go_simp
        with_reducible rfl
       rotate_left
       ·simp only [Act.put,Sa_,Sb_,Sc_,i64_w,i32_w]
        rfl
       refine take_ (i:=2) (N:=some 20) (v:=?_) (a':=?_) #[true,true,true,false,false,true,false,false,false,false] rfl rfl (take_ofW HT_.out HW_.out (by kernel_rfl)) (fun _ _ _ h => h) (Or.inl ⟨by rfl,?_⟩) hHeld ?_ ?_;rotate_left
       ·rintro w' ⟨s0,s1,s2⟩
        go_simp
        with_reducible rfl
       rotate_left
       ·simp only [Act.put,Sa_,Sb_,Sc_,i64_w,i32_w]
        rfl
       refine pure_ (i:=3) (N:=some 21) (v:=?_) (a':=?_) #[true,true,true,true,false,true,false,false,false,false] rfl rfl (any_of HT_.out (by kernel_rfl)) (fun _ _ _ h => h) (Or.inl ⟨by rfl,?_⟩) ?_ ?_;rotate_left
       ·intro w'
        go_simp
        with_reducible rfl
       rotate_left
       ·simp only [Act.put,Sa_,Sb_,Sc_,i64_w,i32_w]
        rfl
       refine pure_ (i:=4) (N:=some 22) (v:=?_) (a':=?_) #[true,true,true,true,true,true,false,false,false,false] rfl rfl (any_of HT_.out (by kernel_rfl)) (fun _ _ _ h => h) (Or.inl ⟨by rfl,?_⟩) ?_ ?_;rotate_left
       ·intro w'
        go_simp
        with_reducible rfl
       rotate_left
       ·simp only [Act.put,Sa_,Sb_,Sc_,i64_w,i32_w]
        rfl
       refine take_ (i:=6) (N:=some 24) (v:=?_) (a':=?_) #[true,true,true,true,true,true,true,false,false,false] rfl rfl (take_ofW HT_.out HW_.out (by kernel_rfl)) (fun _ _ _ h => h) (Or.inl ⟨by rfl,?_⟩) hHeld ?_ ?_;rotate_left
       ·rintro w' ⟨s0,s1,s2⟩
        go_simp
        with_reducible rfl
       rotate_left
       ·simp only [Act.put,Sa_,Sb_,Sc_,i64_w,i32_w]
        rfl
       refine one_ (i:=7) (N:=some 25) #[true,true,true,true,true,true,true,true,false,false] rfl rfl (one_of HT_.out (by kernel_rfl)) (by decide) (fun K hK => ?_);refine goes_ Tryz.func58 (by kernel_rfl) rfl #[.int .i64 a0_2] (by rfl) rfl rfl (by (try simp only [List.map_toArray,List.map_cons,List.map_nil]);first|done|rfl|(simp only [List.length_drop,List.length_take];rfl)) ?_;with_reducible refine (impl_FormatInt.calls (ht_:=Man.tab_on HT.out (xe_ HB)) a0_2 t153 _ A29.out).mono ?_;rintro e w36 ⟨rfl,hb⟩;refine ⟨_,rfl,?_⟩;replace BK150:=bb_ BK150 hb;replace HB:=bs_ HB hb;(try clear hb);(try clear hb2);(try clear hk);(try clear hi);refine hK.out _ _ ⟨q_ BK150 0 rfl,q_ BK150 1 rfl,q_ BK150 2 rfl⟩ (fun hHeld => ?_);clear hK K;refine norm_ (a':=?_) ?_ ?_;rotate_left
       ·show Act.put _ (some 25) _=_
        simp only [Act.put,Sa_,Sb_,Sc_,i64_w,i32_w]
        rfl
       refine pure_ (i:=8) (N:=some 26) (v:=?_) (a':=?_) #[true,true,true,true,true,true,true,true,true,false] rfl rfl (any_of HT_.out (by kernel_rfl)) (fun _ _ _ h => h) (Or.inl ⟨by rfl,?_⟩) ?_ ?_;rotate_left
       ·intro w'
        go_simp
        with_reducible rfl
       rotate_left
       ·simp only [Act.put,Sa_,Sb_,Sc_,i64_w,i32_w]
        rfl
       refine pure_ (i:=9) (N:=some 2) (v:=?_) (a':=?_) #[true,true,true,true,true,true,true,true,true,true] rfl rfl (any_of HT_.out (by kernel_rfl)) (fun _ _ _ h => h) (Or.inl ⟨by rfl,?_⟩) ?_ ?_;rotate_left
       ·intro w'
        go_simp
        with_reducible rfl
       rotate_left
       ·simp only [Act.put,Sa_,Sb_,Sc_,i64_w,i32_w]
        rfl
       refine done_ (done_of HT_.out (by kernel_rfl)) ?_
       try go_wp2
       go_ret
       exact ⟨by first|rfl|(simp [errW_none,errW_some] <;> rfl)|(simp [*,errW_none,errW_some] <;> rfl),by repeat (first|(with_reducible first|exact HB.out|apply below_alloc|apply pw_below_drewN|apply below_drew1|refine below_set ?_ GE150.out)|exact HB.out)⟩
      ·rw [if_neg c30] at H
       exact absurd H (by simp)
     ·rw [if_neg c28] at H
      exact absurd H (by simp)
    ·rw [if_neg c27] at H
     exact absurd H (by simp)
 ·replace c3:=Bool.eq_false_iff.mpr c3;subst c3
  rw [if_neg (show ¬ (false=true) by decide)] at H
  obtain rfl:=Option.some.inj H
  go_enter Tryz.func26,Tryz.ntmps26
  go_wp2_with (first|((with_reducible refine gate_dst (N:=1) rfl ?_);refine box_event ?hg (N:=1) ?hd (cs:=#[.bool a0_0,.string a0_1,.int .i64 a0_2]) (t:=28) ?hr ?_;(case hd => rfl);(case hg => rfl);(case hr => first|(go_simp;done)|(go_simp;rfl));intro gb150 hg w37 hbox hb;have n0_:=bs_ HB hb;have n1_:=Am3_ (hbox);have n2_:=gw_ hg HB;have n3_:=gw_ hg HB;clear HB;have HB:=n0_;have BK150:=n1_;have GW150:=n2_;have GE150:=n3_;clear n0_ n1_ n2_ n3_;clear hb hbox hg;have hcz38_0:w37.cell? ⟨gb150,0,none⟩=some (.bool a0_0):=q_ BK150 0 rfl;have hcz38_1:w37.cell? ⟨gb150,1,none⟩=some (.string a0_1):=q_ BK150 1 rfl;have hcz38_2:w37.cell? ⟨gb150,2,none⟩=some (.int .i64 a0_2):=q_ BK150 2 rfl;have hfz38_0:=blk_frozen BK150.out 0;have hfz38_1:=blk_frozen BK150.out 1;have hfz38_2:=blk_frozen BK150.out 2)|((with_reducible refine gate_callee (f:=57) rfl ?_);refine goesL_ (some 6) rfl rfl Tryz.func57 (by kernel_rfl) rfl #[.agg #[.bool a0_0,.string a0_1,.int .i64 a0_2]] rfl (by (try simp only [List.map_toArray,List.map_cons,List.map_nil]);first|done|rfl|(simp only [List.length_drop,List.length_take];rfl)) ?_;(with_reducible refine (impl_IsOrigin.calls k a0_0 a0_1 a0_2 false _ A2.out).mono ?_);rintro e w39 ⟨rfl,hb⟩;refine ⟨_,rfl,?_⟩;have n0_:=bb_ BK150 hb;have n1_:=bs_ HB hb;clear BK150;clear HB;have BK150:=n0_;have HB:=n1_;clear n0_ n1_;(try clear hb);(try clear hb2);(try clear hk);(try clear hi)))
  go_ret
  exact ⟨by first|rfl|(simp [errW_none,errW_some] <;> rfl)|(simp [*,errW_none,errW_some] <;> rfl),by repeat (first|(with_reducible first|exact HB.out|apply below_alloc|apply pw_below_drewN|apply below_drew1|refine below_set ?_ GE150.out)|exact HB.out)⟩


/-! ### strings_Contains: function 64 -/
def strings_Contains.f (a0:ByteArray) (a1:ByteArray):Option (Bool):=if a1=⟨#[46]⟩ then some (decide (0 ≤ Lib.indexByte a0.data.toList 46)) else none
theorem strings_Contains.calls (a0:ByteArray) (a1:ByteArray) (r:Bool) (w:World) (h:strings_Contains.f a0 a1=some r) :
  Calls Tryz.prog 64 #[.string a0,.string a1] w fun e w' => e=.returned (.bool r)∧Drawn0 w w':=by
 unfold strings_Contains.f at h
 by_cases hc:a1=⟨#[46]⟩
 case neg => rw [if_neg hc] at h;cases h
 rw [if_pos hc] at h
 subst hc;obtain rfl:=Option.some.inj h;exact (Any.strings_Contains_one Tryz.lays144 a0 46 w).mono fun e w' ⟨he,hw⟩ => ⟨he,hw ▸ Drawn0.refl w⟩

/-! ### stringslite_HasSuffix: function 95 -/
def stringslite_HasSuffix.f (a0:ByteArray) (a1:ByteArray):Option (Bool):=if (a0.size:Int) ≥ (a1.size:Int) then (if 0 ≤ (wrap64 ((a0.size:Int) - (a1.size:Int))) then (if (wrap64 ((a0.size:Int) - (a1.size:Int))) ≤ (a0.size:Int) then (some ((a0.extract ((wrap64 ((a0.size:Int) - (a1.size:Int))):Int).toNat a0.size).toList == a1.toList)) else (none)) else (none)) else (some false)
set_option maxHeartbeats 8000000 in
set_option maxRecDepth 100000 in
theorem stringslite_HasSuffix.calls (a0:ByteArray) (a1:ByteArray) (r:Bool) (w:World) (h:stringslite_HasSuffix.f a0 a1=some r) :
  Calls Tryz.prog 95 #[.string a0,.string a1] w fun e w' => e=.returned (.bool r)∧Drawn0 w w':=by
 have H:=h;unfold stringslite_HasSuffix.f at H;clear h
 by_cases c3:(a0.size:Int) ≥ (a1.size:Int)
 ·rw [if_pos c3] at H
  have c3b0:decide ((a1.size:Int) ≤ (a0.size:Int))=true:=decide_eq_true c3;have c3b1:decide (a1.size ≤ a0.size)=true:=decide_eq_true (Int.ofNat_le.mp c3);clear c3;obtain ⟨ji4,hji4⟩:∃ j_:Int,(wrap64 ((a0.size:Int) - (a1.size:Int)))=j_:=⟨_,rfl⟩;replace H:(if 0 ≤ (ji4) then (if (ji4) ≤ (a0.size:Int) then (some ((a0.extract ((ji4):Int).toNat a0.size).toList == a1.toList)) else (none)) else (none))=some r:=by first|(rw [hji4] at H;exact H)|(simp only [hji4] at H ⊢;exact H)
  have hji4w:(IntKind.i64.wrap ((a0.size:Int) - (a1.size:Int)))=ji4:=(i64_w _).trans hji4
  by_cases c5:0 ≤ (ji4)
  ·rw [if_pos c5] at H
   have c5b0:=eq_true c5;have c5b1:decide (0 ≤ (ji4))=true:=decide_eq_true c5;clear c5
   by_cases c6:(ji4) ≤ (a0.size:Int)
   ·rw [if_pos c6] at H
    have c6b0:=eq_true c6;have c6b1:decide ((ji4) ≤ (a0.size:Int))=true:=decide_eq_true c6;clear c6;obtain rfl:=Option.some.inj H
    go_enter Tryz.func95,Tryz.ntmps95
    go_wp2
    go_ret
    exact ⟨by first|rfl|(simp;done)|(simp only [← hji4] <;> (first|rfl|simp))|(simp [*];done),by repeat (first|exact Drawn0.refl _|apply Drawn0.step)⟩
   ·rw [if_neg c6] at H
    exact absurd H (by simp)
  ·rw [if_neg c5] at H
   exact absurd H (by simp)
 ·rw [if_neg c3] at H
  have c3b0:decide ((a1.size:Int) ≤ (a0.size:Int))=false:=decide_eq_false c3;have c3b1:decide (a1.size ≤ a0.size)=false:=decide_eq_false (fun h => c3 (Int.ofNat_le.mpr h));clear c3;obtain rfl:=Option.some.inj H
  go_enter Tryz.func95,Tryz.ntmps95
  go_wp2
  go_ret
  exact ⟨by first|rfl|(simp;done)|(simp [*];done),by repeat (first|exact Drawn0.refl _|apply Drawn0.step)⟩

/-! ### strings_HasSuffix: function 65 -/
def strings_HasSuffix.f (a0:ByteArray) (a1:ByteArray):Option (Bool):=(stringslite_HasSuffix.f a0 a1).bind fun t154 => (some t154)
set_option maxHeartbeats 8000000 in
set_option maxRecDepth 100000 in
theorem strings_HasSuffix.calls (a0:ByteArray) (a1:ByteArray) (r:Bool) (w:World) (h:strings_HasSuffix.f a0 a1=some r) :
  Calls Tryz.prog 65 #[.string a0,.string a1] w fun e w' => e=.returned (.bool r)∧Drawn0 w w':=by
 have H:((stringslite_HasSuffix.f a0 a1).bind fun t154 => (some t154))=some r:=h;clear h;replace H:=Option.bind_eq_some_iff.mp H;obtain ⟨t154,A30,H⟩:=H
 try dsimp only at H
 have A3:=Am3_ A30;clear A30;obtain rfl:=Option.some.inj H
 go_enter Tryz.func65,Tryz.ntmps65
 go_wp2_with (first|((with_reducible refine gate_callee (f:=95) rfl ?_);refine goesL_ (some 7) rfl rfl Tryz.func95 (by kernel_rfl) rfl #[.string a0,.string a1] rfl (by (try simp only [List.map_toArray,List.map_cons,List.map_nil]);first|done|rfl|(simp only [List.length_drop,List.length_take];rfl)) ?_;(with_reducible refine (stringslite_HasSuffix.calls a0 a1 t154 _ A3.out).mono ?_);rintro e w' ⟨rfl,⟨nd,rfl⟩⟩;refine ⟨_,rfl,?_⟩))
 go_ret
 exact ⟨by first|rfl|(simp;done)|(simp [*];done),by repeat (first|exact Drawn0.refl _|apply Drawn0.step)⟩

/-! ### impl_MayUse: function 31 -/
def impl_MayUse.f (k:Nat) (a0_0:Bool) (a0_1:ByteArray) (a0_2:Int) (a1:ByteArray):Option (Bool):=(impl_IsOrigin.f k a0_0 a0_1 a0_2).bind fun t156 => (if t156=true then (if a0_0=true then ((impl_IsHost.f k a1).bind fun t157 => (if t157=true then ((strings_Contains.f a1 (⟨#[46]⟩:ByteArray)).bind fun t158 => (if t158=true then (if a0_1.toList=a1.toList then (some true) else (if 1 + a1.size ≤ 9223372036854775807 then ((strings_HasSuffix.f a0_1 ((⟨#[46]⟩:ByteArray) ++ a1)).bind fun t159 => (some t159)) else (none))) else (some false))) else (some false))) else (some false)) else (some false))
theorem impl_MayUse.mono:∀ a0 a1 a2 a3 k,LeO (impl_MayUse.f k a0 a1 a2 a3) (impl_MayUse.f (k + 1) a0 a1 a2 a3):=by
 intro a0 a1 a2 a3 k
 unfold impl_MayUse.f
 repeat' first
  |(with_reducible exact impl_IsHost.mono _ _)
  |(with_reducible exact impl_IsOrigin.mono _ _ _ _)
  |(with_reducible exact LeO.refl _)
  |(with_reducible exact LeO.none _)
  |(with_reducible refine LeO.ite ?_ ?_)
  |(with_reducible refine LeO.bind ?_ (fun _ => ?_))
  |exact impl_IsHost.mono _ _
  |exact impl_IsOrigin.mono _ _ _ _
  |exact LeO.none _
  |refine LeO.ite ?_ ?_
  |refine LeO.bind ?_ (fun _ => ?_)
set_option maxHeartbeats 8000000 in
set_option maxRecDepth 100000 in
theorem impl_MayUse.calls (k:Nat) (a0_0:Bool) (a0_1:ByteArray) (a0_2:Int) (a1:ByteArray) (r:Bool) (w:World) (h:impl_MayUse.f k a0_0 a0_1 a0_2 a1=some r) :
  Calls Tryz.prog 31 #[.agg #[.bool a0_0,.string a0_1,.int .i64 a0_2],.string a1] w fun e w' => e=.returned (.bool r)∧Below w.heap.size w w':=by
 have hu28:=Tryz.underlying28;have HB:=Am3_ (Below.refl w.heap.size w);have H:=h;unfold impl_MayUse.f at H;clear h;replace H:=Option.bind_eq_some_iff.mp H;obtain ⟨t156,A30,H⟩:=H
 try dsimp only at H
 have A3:=Am3_ A30;clear A30
 by_cases c4:t156=true
 ·subst c4
  rw [if_pos rfl] at H
  by_cases c5:a0_0=true
  ·subst c5
   rw [if_pos rfl] at H
   replace H:=Option.bind_eq_some_iff.mp H;obtain ⟨t157,A60,H⟩:=H
   try dsimp only at H
   have A6:=Am3_ A60;clear A60
   by_cases c7:t157=true
   ·subst c7
    rw [if_pos rfl] at H
    replace H:=Option.bind_eq_some_iff.mp H;obtain ⟨t158,A80,H⟩:=H
    try dsimp only at H
    have A8:=Am3_ A80;clear A80
    by_cases c9:t158=true
    ·subst c9
     rw [if_pos rfl] at H
     by_cases c10:a0_1.toList=a1.toList
     ·rw [if_pos c10] at H
      have c10b0:(a0_1.toList == a1.toList)=true:=beq_iff_eq.mpr c10;have c10b1:(a0_1.toList != a1.toList)=false:=bne_eq_false_iff_eq.mpr c10;clear c10;obtain rfl:=Option.some.inj H
      go_enter Tryz.func31,Tryz.ntmps31
      go_wp2_with (first|((with_reducible refine gate_dst (N:=2) rfl ?_);refine box_event ?hg (N:=2) ?hd (cs:=#[.bool true,.string a0_1,.int .i64 a0_2]) (t:=28) ?hr ?_;(case hd => rfl);(case hg => rfl);(case hr => first|(go_simp;done)|(go_simp;rfl));intro gb155 hg w11 hbox hb;have n0_:=bs_ HB hb;have n1_:=Am3_ (hbox);have n2_:=gw_ hg HB;have n3_:=gw_ hg HB;clear HB;have HB:=n0_;have BK155:=n1_;have GW155:=n2_;have GE155:=n3_;clear n0_ n1_ n2_ n3_;clear hb hbox hg;have hcz12_0:w11.cell? ⟨gb155,0,none⟩=some (.bool true):=q_ BK155 0 rfl;have hcz12_1:w11.cell? ⟨gb155,1,none⟩=some (.string a0_1):=q_ BK155 1 rfl;have hcz12_2:w11.cell? ⟨gb155,2,none⟩=some (.int .i64 a0_2):=q_ BK155 2 rfl;have hfz12_0:=blk_frozen BK155.out 0;have hfz12_1:=blk_frozen BK155.out 1;have hfz12_2:=blk_frozen BK155.out 2)|((with_reducible refine gate_callee (f:=57) rfl ?_);refine goesL_ (some 6) rfl rfl Tryz.func57 (by kernel_rfl) rfl #[.agg #[.bool true,.string a0_1,.int .i64 a0_2]] rfl (by (try simp only [List.map_toArray,List.map_cons,List.map_nil]);first|done|rfl|(simp only [List.length_drop,List.length_take];rfl)) ?_;(with_reducible refine (impl_IsOrigin.calls k true a0_1 a0_2 true _ A3.out).mono ?_);rintro e w13 ⟨rfl,hb⟩;refine ⟨_,rfl,?_⟩;have n0_:=bb_ BK155 hb;have n1_:=bs_ HB hb;clear BK155;clear HB;have BK155:=n0_;have HB:=n1_;clear n0_ n1_;(try clear hb);(try clear hb2);(try clear hk);(try clear hi);have hcz14_0:w13.cell? ⟨gb155,0,none⟩=some (.bool true):=q_ BK155 0 rfl;have hcz14_1:w13.cell? ⟨gb155,1,none⟩=some (.string a0_1):=q_ BK155 1 rfl;have hcz14_2:w13.cell? ⟨gb155,2,none⟩=some (.int .i64 a0_2):=q_ BK155 2 rfl;have hfz14_0:=blk_frozen BK155.out 0;have hfz14_1:=blk_frozen BK155.out 1;have hfz14_2:=blk_frozen BK155.out 2)|(go_at_call 35;(with_reducible refine (impl_IsHost.calls k a1 true _ A6.out).mono ?_);rintro e w15 ⟨rfl,hb⟩;have n0_:=bb_ BK155 hb;have n1_:=bs_ HB hb;clear BK155;clear HB;have BK155:=n0_;have HB:=n1_;clear n0_ n1_;(try clear hb);(try clear hb2);(try clear hk);(try clear hi))|(go_at_call 64;(with_reducible refine (strings_Contains.calls a1 (⟨#[46]⟩:ByteArray) true _ A8.out).mono ?_);rintro e w' ⟨rfl,⟨nd,rfl⟩⟩;have hcz16_0:w15.cell? ⟨gb155,0,none⟩=some (.bool true):=q_ BK155 0 rfl;have hcz16_1:w15.cell? ⟨gb155,1,none⟩=some (.string a0_1):=q_ BK155 1 rfl;have hcz16_2:w15.cell? ⟨gb155,2,none⟩=some (.int .i64 a0_2):=q_ BK155 2 rfl;have hfz16_0:=blk_frozen BK155.out 0;have hfz16_1:=blk_frozen BK155.out 1;have hfz16_2:=blk_frozen BK155.out 2))
      go_ret
      exact ⟨by first|rfl|(simp [errW_none,errW_some] <;> rfl)|(simp [*,errW_none,errW_some] <;> rfl),by repeat (first|(with_reducible first|exact HB.out|apply below_alloc|apply pw_below_drewN|apply below_drew1|refine below_set ?_ GE155.out)|exact HB.out)⟩
     ·rw [if_neg c10] at H
      have c10b0:(a0_1.toList == a1.toList)=false:=beq_eq_false_iff_ne.mpr c10;have c10b1:(a0_1.toList != a1.toList)=true:=bne_iff_ne.mpr c10
      by_cases c17:1 + a1.size ≤ 9223372036854775807
      ·rw [if_pos c17] at H
       have c17b0:=eq_true c17;have c17b1:decide (1 + a1.size ≤ 9223372036854775807)=true:=decide_eq_true c17
       try have c17b2:(9223372036854775807 < 1 + a1.size)=False:=eq_false (Nat.not_lt.2 c17)
       replace H:=Option.bind_eq_some_iff.mp H;obtain ⟨t159,A180,H⟩:=H
       try dsimp only at H
       have A18:=Am3_ A180;clear A180;obtain rfl:=Option.some.inj H
       go_enter Tryz.func31,Tryz.ntmps31
       go_wp2_with (first|((with_reducible refine gate_dst (N:=2) rfl ?_);refine box_event ?hg (N:=2) ?hd (cs:=#[.bool true,.string a0_1,.int .i64 a0_2]) (t:=28) ?hr ?_;(case hd => rfl);(case hg => rfl);(case hr => first|(go_simp;done)|(go_simp;rfl));intro gb155 hg w19 hbox hb;have n0_:=bs_ HB hb;have n1_:=Am3_ (hbox);have n2_:=gw_ hg HB;have n3_:=gw_ hg HB;clear HB;have HB:=n0_;have BK155:=n1_;have GW155:=n2_;have GE155:=n3_;clear n0_ n1_ n2_ n3_;clear hb hbox hg;have hcz20_0:w19.cell? ⟨gb155,0,none⟩=some (.bool true):=q_ BK155 0 rfl;have hcz20_1:w19.cell? ⟨gb155,1,none⟩=some (.string a0_1):=q_ BK155 1 rfl;have hcz20_2:w19.cell? ⟨gb155,2,none⟩=some (.int .i64 a0_2):=q_ BK155 2 rfl;have hfz20_0:=blk_frozen BK155.out 0;have hfz20_1:=blk_frozen BK155.out 1;have hfz20_2:=blk_frozen BK155.out 2)|((with_reducible refine gate_callee (f:=57) rfl ?_);refine goesL_ (some 6) rfl rfl Tryz.func57 (by kernel_rfl) rfl #[.agg #[.bool true,.string a0_1,.int .i64 a0_2]] rfl (by (try simp only [List.map_toArray,List.map_cons,List.map_nil]);first|done|rfl|(simp only [List.length_drop,List.length_take];rfl)) ?_;(with_reducible refine (impl_IsOrigin.calls k true a0_1 a0_2 true _ A3.out).mono ?_);rintro e w21 ⟨rfl,hb⟩;refine ⟨_,rfl,?_⟩;have n0_:=bb_ BK155 hb;have n1_:=bs_ HB hb;clear BK155;clear HB;have BK155:=n0_;have HB:=n1_;clear n0_ n1_;(try clear hb);(try clear hb2);(try clear hk);(try clear hi);have hcz22_0:w21.cell? ⟨gb155,0,none⟩=some (.bool true):=q_ BK155 0 rfl;have hcz22_1:w21.cell? ⟨gb155,1,none⟩=some (.string a0_1):=q_ BK155 1 rfl;have hcz22_2:w21.cell? ⟨gb155,2,none⟩=some (.int .i64 a0_2):=q_ BK155 2 rfl;have hfz22_0:=blk_frozen BK155.out 0;have hfz22_1:=blk_frozen BK155.out 1;have hfz22_2:=blk_frozen BK155.out 2)|(go_at_call 35;(with_reducible refine (impl_IsHost.calls k a1 true _ A6.out).mono ?_);rintro e w23 ⟨rfl,hb⟩;have n0_:=bb_ BK155 hb;have n1_:=bs_ HB hb;clear BK155;clear HB;have BK155:=n0_;have HB:=n1_;clear n0_ n1_;(try clear hb);(try clear hb2);(try clear hk);(try clear hi))|(go_at_call 64;(with_reducible refine (strings_Contains.calls a1 (⟨#[46]⟩:ByteArray) true _ A8.out).mono ?_);rintro e w' ⟨rfl,⟨nd,rfl⟩⟩;have hcz24_0:w23.cell? ⟨gb155,0,none⟩=some (.bool true):=q_ BK155 0 rfl;have hcz24_1:w23.cell? ⟨gb155,1,none⟩=some (.string a0_1):=q_ BK155 1 rfl;have hcz24_2:w23.cell? ⟨gb155,2,none⟩=some (.int .i64 a0_2):=q_ BK155 2 rfl;have hfz24_0:=blk_frozen BK155.out 0;have hfz24_1:=blk_frozen BK155.out 1;have hfz24_2:=blk_frozen BK155.out 2)|(go_at_call 65;(with_reducible refine (strings_HasSuffix.calls a0_1 ((⟨#[46]⟩:ByteArray) ++ a1) t159 _ A18.out).mono ?_);rintro e w' ⟨rfl,⟨nd,rfl⟩⟩))
       go_ret
       exact ⟨by first|rfl|(simp [errW_none,errW_some] <;> rfl)|(simp [*,errW_none,errW_some] <;> rfl),by repeat (first|(with_reducible first|exact HB.out|apply below_alloc|apply pw_below_drewN|apply below_drew1|refine below_set ?_ GE155.out)|exact HB.out)⟩
      ·rw [if_neg c17] at H
       exact absurd H (by simp)
    ·replace c9:=Bool.eq_false_iff.mpr c9;subst c9
     rw [if_neg (show ¬ (false=true) by decide)] at H
     obtain rfl:=Option.some.inj H
     go_enter Tryz.func31,Tryz.ntmps31
     go_wp2_with (first|((with_reducible refine gate_dst (N:=2) rfl ?_);refine box_event ?hg (N:=2) ?hd (cs:=#[.bool true,.string a0_1,.int .i64 a0_2]) (t:=28) ?hr ?_;(case hd => rfl);(case hg => rfl);(case hr => first|(go_simp;done)|(go_simp;rfl));intro gb155 hg w25 hbox hb;have n0_:=bs_ HB hb;have n1_:=Am3_ (hbox);have n2_:=gw_ hg HB;have n3_:=gw_ hg HB;clear HB;have HB:=n0_;have BK155:=n1_;have GW155:=n2_;have GE155:=n3_;clear n0_ n1_ n2_ n3_;clear hb hbox hg;have hcz26_0:w25.cell? ⟨gb155,0,none⟩=some (.bool true):=q_ BK155 0 rfl;have hcz26_1:w25.cell? ⟨gb155,1,none⟩=some (.string a0_1):=q_ BK155 1 rfl;have hcz26_2:w25.cell? ⟨gb155,2,none⟩=some (.int .i64 a0_2):=q_ BK155 2 rfl;have hfz26_0:=blk_frozen BK155.out 0;have hfz26_1:=blk_frozen BK155.out 1;have hfz26_2:=blk_frozen BK155.out 2)|((with_reducible refine gate_callee (f:=57) rfl ?_);refine goesL_ (some 6) rfl rfl Tryz.func57 (by kernel_rfl) rfl #[.agg #[.bool true,.string a0_1,.int .i64 a0_2]] rfl (by (try simp only [List.map_toArray,List.map_cons,List.map_nil]);first|done|rfl|(simp only [List.length_drop,List.length_take];rfl)) ?_;(with_reducible refine (impl_IsOrigin.calls k true a0_1 a0_2 true _ A3.out).mono ?_);rintro e w27 ⟨rfl,hb⟩;refine ⟨_,rfl,?_⟩;have n0_:=bb_ BK155 hb;have n1_:=bs_ HB hb;clear BK155;clear HB;have BK155:=n0_;have HB:=n1_;clear n0_ n1_;(try clear hb);(try clear hb2);(try clear hk);(try clear hi);have hcz28_0:w27.cell? ⟨gb155,0,none⟩=some (.bool true):=q_ BK155 0 rfl;have hcz28_1:w27.cell? ⟨gb155,1,none⟩=some (.string a0_1):=q_ BK155 1 rfl;have hcz28_2:w27.cell? ⟨gb155,2,none⟩=some (.int .i64 a0_2):=q_ BK155 2 rfl;have hfz28_0:=blk_frozen BK155.out 0;have hfz28_1:=blk_frozen BK155.out 1;have hfz28_2:=blk_frozen BK155.out 2)|(go_at_call 35;(with_reducible refine (impl_IsHost.calls k a1 true _ A6.out).mono ?_);rintro e w29 ⟨rfl,hb⟩;have n0_:=bb_ BK155 hb;have n1_:=bs_ HB hb;clear BK155;clear HB;have BK155:=n0_;have HB:=n1_;clear n0_ n1_;(try clear hb);(try clear hb2);(try clear hk);(try clear hi))|(go_at_call 64;(with_reducible refine (strings_Contains.calls a1 (⟨#[46]⟩:ByteArray) false _ A8.out).mono ?_);rintro e w' ⟨rfl,⟨nd,rfl⟩⟩))
     go_ret
     exact ⟨by first|rfl|(simp [errW_none,errW_some] <;> rfl)|(simp [*,errW_none,errW_some] <;> rfl),by repeat (first|(with_reducible first|exact HB.out|apply below_alloc|apply pw_below_drewN|apply below_drew1|refine below_set ?_ GE155.out)|exact HB.out)⟩
   ·replace c7:=Bool.eq_false_iff.mpr c7;subst c7
    rw [if_neg (show ¬ (false=true) by decide)] at H
    obtain rfl:=Option.some.inj H
    go_enter Tryz.func31,Tryz.ntmps31
    go_wp2_with (first|((with_reducible refine gate_dst (N:=2) rfl ?_);refine box_event ?hg (N:=2) ?hd (cs:=#[.bool true,.string a0_1,.int .i64 a0_2]) (t:=28) ?hr ?_;(case hd => rfl);(case hg => rfl);(case hr => first|(go_simp;done)|(go_simp;rfl));intro gb155 hg w30 hbox hb;have n0_:=bs_ HB hb;have n1_:=Am3_ (hbox);have n2_:=gw_ hg HB;have n3_:=gw_ hg HB;clear HB;have HB:=n0_;have BK155:=n1_;have GW155:=n2_;have GE155:=n3_;clear n0_ n1_ n2_ n3_;clear hb hbox hg;have hcz31_0:w30.cell? ⟨gb155,0,none⟩=some (.bool true):=q_ BK155 0 rfl;have hcz31_1:w30.cell? ⟨gb155,1,none⟩=some (.string a0_1):=q_ BK155 1 rfl;have hcz31_2:w30.cell? ⟨gb155,2,none⟩=some (.int .i64 a0_2):=q_ BK155 2 rfl;have hfz31_0:=blk_frozen BK155.out 0;have hfz31_1:=blk_frozen BK155.out 1;have hfz31_2:=blk_frozen BK155.out 2)|((with_reducible refine gate_callee (f:=57) rfl ?_);refine goesL_ (some 6) rfl rfl Tryz.func57 (by kernel_rfl) rfl #[.agg #[.bool true,.string a0_1,.int .i64 a0_2]] rfl (by (try simp only [List.map_toArray,List.map_cons,List.map_nil]);first|done|rfl|(simp only [List.length_drop,List.length_take];rfl)) ?_;(with_reducible refine (impl_IsOrigin.calls k true a0_1 a0_2 true _ A3.out).mono ?_);rintro e w32 ⟨rfl,hb⟩;refine ⟨_,rfl,?_⟩;have n0_:=bb_ BK155 hb;have n1_:=bs_ HB hb;clear BK155;clear HB;have BK155:=n0_;have HB:=n1_;clear n0_ n1_;(try clear hb);(try clear hb2);(try clear hk);(try clear hi);have hcz33_0:w32.cell? ⟨gb155,0,none⟩=some (.bool true):=q_ BK155 0 rfl;have hcz33_1:w32.cell? ⟨gb155,1,none⟩=some (.string a0_1):=q_ BK155 1 rfl;have hcz33_2:w32.cell? ⟨gb155,2,none⟩=some (.int .i64 a0_2):=q_ BK155 2 rfl;have hfz33_0:=blk_frozen BK155.out 0;have hfz33_1:=blk_frozen BK155.out 1;have hfz33_2:=blk_frozen BK155.out 2)|(go_at_call 35;(with_reducible refine (impl_IsHost.calls k a1 false _ A6.out).mono ?_);rintro e w34 ⟨rfl,hb⟩;have n0_:=bb_ BK155 hb;have n1_:=bs_ HB hb;clear BK155;clear HB;have BK155:=n0_;have HB:=n1_;clear n0_ n1_;(try clear hb);(try clear hb2);(try clear hk);(try clear hi)))
    go_ret
    exact ⟨by first|rfl|(simp [errW_none,errW_some] <;> rfl)|(simp [*,errW_none,errW_some] <;> rfl),by repeat (first|(with_reducible first|exact HB.out|apply below_alloc|apply pw_below_drewN|apply below_drew1|refine below_set ?_ GE155.out)|exact HB.out)⟩
  ·replace c5:=Bool.eq_false_iff.mpr c5;subst c5
   rw [if_neg (show ¬ (false=true) by decide)] at H
   obtain rfl:=Option.some.inj H
   go_enter Tryz.func31,Tryz.ntmps31
   go_wp2_with (first|((with_reducible refine gate_dst (N:=2) rfl ?_);refine box_event ?hg (N:=2) ?hd (cs:=#[.bool false,.string a0_1,.int .i64 a0_2]) (t:=28) ?hr ?_;(case hd => rfl);(case hg => rfl);(case hr => first|(go_simp;done)|(go_simp;rfl));intro gb155 hg w35 hbox hb;have n0_:=bs_ HB hb;have n1_:=Am3_ (hbox);have n2_:=gw_ hg HB;have n3_:=gw_ hg HB;clear HB;have HB:=n0_;have BK155:=n1_;have GW155:=n2_;have GE155:=n3_;clear n0_ n1_ n2_ n3_;clear hb hbox hg;have hcz36_0:w35.cell? ⟨gb155,0,none⟩=some (.bool false):=q_ BK155 0 rfl;have hcz36_1:w35.cell? ⟨gb155,1,none⟩=some (.string a0_1):=q_ BK155 1 rfl;have hcz36_2:w35.cell? ⟨gb155,2,none⟩=some (.int .i64 a0_2):=q_ BK155 2 rfl;have hfz36_0:=blk_frozen BK155.out 0;have hfz36_1:=blk_frozen BK155.out 1;have hfz36_2:=blk_frozen BK155.out 2)|((with_reducible refine gate_callee (f:=57) rfl ?_);refine goesL_ (some 6) rfl rfl Tryz.func57 (by kernel_rfl) rfl #[.agg #[.bool false,.string a0_1,.int .i64 a0_2]] rfl (by (try simp only [List.map_toArray,List.map_cons,List.map_nil]);first|done|rfl|(simp only [List.length_drop,List.length_take];rfl)) ?_;(with_reducible refine (impl_IsOrigin.calls k false a0_1 a0_2 true _ A3.out).mono ?_);rintro e w37 ⟨rfl,hb⟩;refine ⟨_,rfl,?_⟩;have n0_:=bb_ BK155 hb;have n1_:=bs_ HB hb;clear BK155;clear HB;have BK155:=n0_;have HB:=n1_;clear n0_ n1_;(try clear hb);(try clear hb2);(try clear hk);(try clear hi);have hcz38_0:w37.cell? ⟨gb155,0,none⟩=some (.bool false):=q_ BK155 0 rfl;have hcz38_1:w37.cell? ⟨gb155,1,none⟩=some (.string a0_1):=q_ BK155 1 rfl;have hcz38_2:w37.cell? ⟨gb155,2,none⟩=some (.int .i64 a0_2):=q_ BK155 2 rfl;have hfz38_0:=blk_frozen BK155.out 0;have hfz38_1:=blk_frozen BK155.out 1;have hfz38_2:=blk_frozen BK155.out 2))
   go_ret
   exact ⟨by first|rfl|(simp [errW_none,errW_some] <;> rfl)|(simp [*,errW_none,errW_some] <;> rfl),by repeat (first|(with_reducible first|exact HB.out|apply below_alloc|apply pw_below_drewN|apply below_drew1|refine below_set ?_ GE155.out)|exact HB.out)⟩
 ·replace c4:=Bool.eq_false_iff.mpr c4;subst c4
  rw [if_neg (show ¬ (false=true) by decide)] at H
  obtain rfl:=Option.some.inj H
  go_enter Tryz.func31,Tryz.ntmps31
  go_wp2_with (first|((with_reducible refine gate_dst (N:=2) rfl ?_);refine box_event ?hg (N:=2) ?hd (cs:=#[.bool a0_0,.string a0_1,.int .i64 a0_2]) (t:=28) ?hr ?_;(case hd => rfl);(case hg => rfl);(case hr => first|(go_simp;done)|(go_simp;rfl));intro gb155 hg w39 hbox hb;have n0_:=bs_ HB hb;have n1_:=Am3_ (hbox);have n2_:=gw_ hg HB;have n3_:=gw_ hg HB;clear HB;have HB:=n0_;have BK155:=n1_;have GW155:=n2_;have GE155:=n3_;clear n0_ n1_ n2_ n3_;clear hb hbox hg;have hcz40_0:w39.cell? ⟨gb155,0,none⟩=some (.bool a0_0):=q_ BK155 0 rfl;have hcz40_1:w39.cell? ⟨gb155,1,none⟩=some (.string a0_1):=q_ BK155 1 rfl;have hcz40_2:w39.cell? ⟨gb155,2,none⟩=some (.int .i64 a0_2):=q_ BK155 2 rfl;have hfz40_0:=blk_frozen BK155.out 0;have hfz40_1:=blk_frozen BK155.out 1;have hfz40_2:=blk_frozen BK155.out 2)|((with_reducible refine gate_callee (f:=57) rfl ?_);refine goesL_ (some 6) rfl rfl Tryz.func57 (by kernel_rfl) rfl #[.agg #[.bool a0_0,.string a0_1,.int .i64 a0_2]] rfl (by (try simp only [List.map_toArray,List.map_cons,List.map_nil]);first|done|rfl|(simp only [List.length_drop,List.length_take];rfl)) ?_;(with_reducible refine (impl_IsOrigin.calls k a0_0 a0_1 a0_2 false _ A3.out).mono ?_);rintro e w41 ⟨rfl,hb⟩;refine ⟨_,rfl,?_⟩;have n0_:=bb_ BK155 hb;have n1_:=bs_ HB hb;clear BK155;clear HB;have BK155:=n0_;have HB:=n1_;clear n0_ n1_;(try clear hb);(try clear hb2);(try clear hk);(try clear hi)))
  go_ret
  exact ⟨by first|rfl|(simp [errW_none,errW_some] <;> rfl)|(simp [*,errW_none,errW_some] <;> rfl),by repeat (first|(with_reducible first|exact HB.out|apply below_alloc|apply pw_below_drewN|apply below_drew1|refine below_set ?_ GE155.out)|exact HB.out)⟩

/-! ### impl_IsValidKey: function 100 -/
def impl_IsValidKey.f (a0:Int):Option (Bool):=(impl_InRange.f a0 1 2147483646).bind fun t160 => (some t160)
set_option maxHeartbeats 8000000 in
set_option maxRecDepth 100000 in
theorem impl_IsValidKey.calls (a0:Int) (r:Bool) (w:World) (h:impl_IsValidKey.f a0=some r) :
  Calls Tryz.prog 100 #[.int .i64 a0] w fun e w' => e=.returned (.bool r)∧Drawn0 w w':=by
 have H:((impl_InRange.f a0 1 2147483646).bind fun t160 => (some t160))=some r:=h;clear h;replace H:=Option.bind_eq_some_iff.mp H;obtain ⟨t160,A20,H⟩:=H
 try dsimp only at H
 have A2:=Am3_ A20;clear A20;obtain rfl:=Option.some.inj H
 go_enter Tryz.func100,Tryz.ntmps100
 go_wp2_with (first|((with_reducible refine gate_callee (f:=91) rfl ?_);refine goesL_ (some 4) rfl rfl Tryz.func91 (by kernel_rfl) rfl #[.int .i64 a0,.int .i64 1,.int .i64 2147483646] rfl (by (try simp only [List.map_toArray,List.map_cons,List.map_nil]);first|done|rfl|(simp only [List.length_drop,List.length_take];rfl)) ?_;(with_reducible refine (impl_InRange.calls a0 1 2147483646 t160 _ A2.out).mono ?_);rintro e w' ⟨rfl,⟨nd,rfl⟩⟩;refine ⟨_,rfl,?_⟩))
 go_ret
 exact ⟨by first|rfl|(simp;done)|(simp [*];done),by repeat (first|exact Drawn0.refl _|apply Drawn0.step)⟩

/-! ### impl_IsValidStore: function 68 -/
def impl_IsValidStore.f (a0_0:Int) (a0_1:Int) (a0_2:Int) (a0_3:Int):Option (Bool):=(impl_InRange.f a0_0 1 9).bind fun t162 => (if t162=true then ((impl_InRange.f a0_1 0 1000000).bind fun t163 => (if t163=true then ((impl_IsValidKey.f a0_2).bind fun t164 => (if t164=true then ((impl_InRange.f a0_3 0 1000000).bind fun t165 => (some t165)) else (some false))) else (some false))) else (some false))
set_option maxHeartbeats 8000000 in
set_option maxRecDepth 100000 in
theorem impl_IsValidStore.calls (a0_0:Int) (a0_1:Int) (a0_2:Int) (a0_3:Int) (r:Bool) (w:World) (h:impl_IsValidStore.f a0_0 a0_1 a0_2 a0_3=some r) :
  Calls Tryz.prog 68 #[.agg #[.int .i64 a0_0,.int .i64 a0_1,.int .i64 a0_2,.int .i64 a0_3]] w fun e w' => e=.returned (.bool r)∧Below w.heap.size w w':=by
 have hu26:=Tryz.underlying26;have HB:=Am3_ (Below.refl w.heap.size w);have H:=h;unfold impl_IsValidStore.f at H;clear h;replace H:=Option.bind_eq_some_iff.mp H;obtain ⟨t162,A20,H⟩:=H
 try dsimp only at H
 have A2:=Am3_ A20;clear A20
 by_cases c3:t162=true
 ·subst c3
  rw [if_pos rfl] at H
  replace H:=Option.bind_eq_some_iff.mp H;obtain ⟨t163,A40,H⟩:=H
  try dsimp only at H
  have A4:=Am3_ A40;clear A40
  by_cases c5:t163=true
  ·subst c5
   rw [if_pos rfl] at H
   replace H:=Option.bind_eq_some_iff.mp H;obtain ⟨t164,A60,H⟩:=H
   try dsimp only at H
   have A6:=Am3_ A60;clear A60
   by_cases c7:t164=true
   ·subst c7
    rw [if_pos rfl] at H
    replace H:=Option.bind_eq_some_iff.mp H;obtain ⟨t165,A80,H⟩:=H
    try dsimp only at H
    have A8:=Am3_ A80;clear A80;obtain rfl:=Option.some.inj H
    go_enter Tryz.func68,Tryz.ntmps68
    go_wp2_with (first|((with_reducible refine gate_dst (N:=1) rfl ?_);refine box_event ?hg (N:=1) ?hd (cs:=#[.int .i64 a0_0,.int .i64 a0_1,.int .i64 a0_2,.int .i64 a0_3]) (t:=26) ?hr ?_;(case hd => rfl);(case hg => rfl);(case hr => first|(go_simp;done)|(go_simp;rfl));intro gb161 hg w9 hbox hb;have n0_:=bs_ HB hb;have n1_:=Am3_ (hbox);have n2_:=gw_ hg HB;have n3_:=gw_ hg HB;clear HB;have HB:=n0_;have BK161:=n1_;have GW161:=n2_;have GE161:=n3_;clear n0_ n1_ n2_ n3_;clear hb hbox hg;have hcz10_0:w9.cell? ⟨gb161,0,none⟩=some (.int .i64 a0_0):=q_ BK161 0 rfl;have hcz10_1:w9.cell? ⟨gb161,1,none⟩=some (.int .i64 a0_1):=q_ BK161 1 rfl;have hcz10_2:w9.cell? ⟨gb161,2,none⟩=some (.int .i64 a0_2):=q_ BK161 2 rfl;have hcz10_3:w9.cell? ⟨gb161,3,none⟩=some (.int .i64 a0_3):=q_ BK161 3 rfl;have hfz10_0:=blk_frozen BK161.out 0;have hfz10_1:=blk_frozen BK161.out 1;have hfz10_2:=blk_frozen BK161.out 2;have hfz10_3:=blk_frozen BK161.out 3)|((with_reducible refine gate_callee (f:=91) rfl ?_);refine goesL_ (some 5) rfl rfl Tryz.func91 (by kernel_rfl) rfl #[.int .i64 a0_0,.int .i64 1,.int .i64 9] rfl (by (try simp only [List.map_toArray,List.map_cons,List.map_nil]);first|done|rfl|(simp only [List.length_drop,List.length_take];rfl)) ?_;(with_reducible refine (impl_InRange.calls a0_0 1 9 true _ A2.out).mono ?_);rintro e w' ⟨rfl,⟨nd,rfl⟩⟩;refine ⟨_,rfl,?_⟩)|(go_at_call 91;(with_reducible refine (impl_InRange.calls a0_1 0 1000000 true _ A4.out).mono ?_);rintro e w' ⟨rfl,⟨nd,rfl⟩⟩)|(go_at_call 100;(with_reducible refine (impl_IsValidKey.calls a0_2 true _ A6.out).mono ?_);rintro e w' ⟨rfl,⟨nd,rfl⟩⟩)|(go_at_call 91;(with_reducible refine (impl_InRange.calls a0_3 0 1000000 t165 _ A8.out).mono ?_);rintro e w' ⟨rfl,⟨nd,rfl⟩⟩))
    go_ret
    exact ⟨by first|rfl|(simp [errW_none,errW_some] <;> rfl)|(simp [*,errW_none,errW_some] <;> rfl),by repeat (first|(with_reducible first|exact HB.out|apply below_alloc|apply pw_below_drewN|apply below_drew1|refine below_set ?_ GE161.out)|exact HB.out)⟩
   ·replace c7:=Bool.eq_false_iff.mpr c7;subst c7
    rw [if_neg (show ¬ (false=true) by decide)] at H
    obtain rfl:=Option.some.inj H
    go_enter Tryz.func68,Tryz.ntmps68
    go_wp2_with (first|((with_reducible refine gate_dst (N:=1) rfl ?_);refine box_event ?hg (N:=1) ?hd (cs:=#[.int .i64 a0_0,.int .i64 a0_1,.int .i64 a0_2,.int .i64 a0_3]) (t:=26) ?hr ?_;(case hd => rfl);(case hg => rfl);(case hr => first|(go_simp;done)|(go_simp;rfl));intro gb161 hg w11 hbox hb;have n0_:=bs_ HB hb;have n1_:=Am3_ (hbox);have n2_:=gw_ hg HB;have n3_:=gw_ hg HB;clear HB;have HB:=n0_;have BK161:=n1_;have GW161:=n2_;have GE161:=n3_;clear n0_ n1_ n2_ n3_;clear hb hbox hg;have hcz12_0:w11.cell? ⟨gb161,0,none⟩=some (.int .i64 a0_0):=q_ BK161 0 rfl;have hcz12_1:w11.cell? ⟨gb161,1,none⟩=some (.int .i64 a0_1):=q_ BK161 1 rfl;have hcz12_2:w11.cell? ⟨gb161,2,none⟩=some (.int .i64 a0_2):=q_ BK161 2 rfl;have hcz12_3:w11.cell? ⟨gb161,3,none⟩=some (.int .i64 a0_3):=q_ BK161 3 rfl;have hfz12_0:=blk_frozen BK161.out 0;have hfz12_1:=blk_frozen BK161.out 1;have hfz12_2:=blk_frozen BK161.out 2;have hfz12_3:=blk_frozen BK161.out 3)|((with_reducible refine gate_callee (f:=91) rfl ?_);refine goesL_ (some 5) rfl rfl Tryz.func91 (by kernel_rfl) rfl #[.int .i64 a0_0,.int .i64 1,.int .i64 9] rfl (by (try simp only [List.map_toArray,List.map_cons,List.map_nil]);first|done|rfl|(simp only [List.length_drop,List.length_take];rfl)) ?_;(with_reducible refine (impl_InRange.calls a0_0 1 9 true _ A2.out).mono ?_);rintro e w' ⟨rfl,⟨nd,rfl⟩⟩;refine ⟨_,rfl,?_⟩)|(go_at_call 91;(with_reducible refine (impl_InRange.calls a0_1 0 1000000 true _ A4.out).mono ?_);rintro e w' ⟨rfl,⟨nd,rfl⟩⟩)|(go_at_call 100;(with_reducible refine (impl_IsValidKey.calls a0_2 false _ A6.out).mono ?_);rintro e w' ⟨rfl,⟨nd,rfl⟩⟩))
    go_ret
    exact ⟨by first|rfl|(simp [errW_none,errW_some] <;> rfl)|(simp [*,errW_none,errW_some] <;> rfl),by repeat (first|(with_reducible first|exact HB.out|apply below_alloc|apply pw_below_drewN|apply below_drew1|refine below_set ?_ GE161.out)|exact HB.out)⟩
  ·replace c5:=Bool.eq_false_iff.mpr c5;subst c5
   rw [if_neg (show ¬ (false=true) by decide)] at H
   obtain rfl:=Option.some.inj H
   go_enter Tryz.func68,Tryz.ntmps68
   go_wp2_with (first|((with_reducible refine gate_dst (N:=1) rfl ?_);refine box_event ?hg (N:=1) ?hd (cs:=#[.int .i64 a0_0,.int .i64 a0_1,.int .i64 a0_2,.int .i64 a0_3]) (t:=26) ?hr ?_;(case hd => rfl);(case hg => rfl);(case hr => first|(go_simp;done)|(go_simp;rfl));intro gb161 hg w13 hbox hb;have n0_:=bs_ HB hb;have n1_:=Am3_ (hbox);have n2_:=gw_ hg HB;have n3_:=gw_ hg HB;clear HB;have HB:=n0_;have BK161:=n1_;have GW161:=n2_;have GE161:=n3_;clear n0_ n1_ n2_ n3_;clear hb hbox hg;have hcz14_0:w13.cell? ⟨gb161,0,none⟩=some (.int .i64 a0_0):=q_ BK161 0 rfl;have hcz14_1:w13.cell? ⟨gb161,1,none⟩=some (.int .i64 a0_1):=q_ BK161 1 rfl;have hcz14_2:w13.cell? ⟨gb161,2,none⟩=some (.int .i64 a0_2):=q_ BK161 2 rfl;have hcz14_3:w13.cell? ⟨gb161,3,none⟩=some (.int .i64 a0_3):=q_ BK161 3 rfl;have hfz14_0:=blk_frozen BK161.out 0;have hfz14_1:=blk_frozen BK161.out 1;have hfz14_2:=blk_frozen BK161.out 2;have hfz14_3:=blk_frozen BK161.out 3)|((with_reducible refine gate_callee (f:=91) rfl ?_);refine goesL_ (some 5) rfl rfl Tryz.func91 (by kernel_rfl) rfl #[.int .i64 a0_0,.int .i64 1,.int .i64 9] rfl (by (try simp only [List.map_toArray,List.map_cons,List.map_nil]);first|done|rfl|(simp only [List.length_drop,List.length_take];rfl)) ?_;(with_reducible refine (impl_InRange.calls a0_0 1 9 true _ A2.out).mono ?_);rintro e w' ⟨rfl,⟨nd,rfl⟩⟩;refine ⟨_,rfl,?_⟩)|(go_at_call 91;(with_reducible refine (impl_InRange.calls a0_1 0 1000000 false _ A4.out).mono ?_);rintro e w' ⟨rfl,⟨nd,rfl⟩⟩))
   go_ret
   exact ⟨by first|rfl|(simp [errW_none,errW_some] <;> rfl)|(simp [*,errW_none,errW_some] <;> rfl),by repeat (first|(with_reducible first|exact HB.out|apply below_alloc|apply pw_below_drewN|apply below_drew1|refine below_set ?_ GE161.out)|exact HB.out)⟩
 ·replace c3:=Bool.eq_false_iff.mpr c3;subst c3
  rw [if_neg (show ¬ (false=true) by decide)] at H
  obtain rfl:=Option.some.inj H
  go_enter Tryz.func68,Tryz.ntmps68
  go_wp2_with (first|((with_reducible refine gate_dst (N:=1) rfl ?_);refine box_event ?hg (N:=1) ?hd (cs:=#[.int .i64 a0_0,.int .i64 a0_1,.int .i64 a0_2,.int .i64 a0_3]) (t:=26) ?hr ?_;(case hd => rfl);(case hg => rfl);(case hr => first|(go_simp;done)|(go_simp;rfl));intro gb161 hg w15 hbox hb;have n0_:=bs_ HB hb;have n1_:=Am3_ (hbox);have n2_:=gw_ hg HB;have n3_:=gw_ hg HB;clear HB;have HB:=n0_;have BK161:=n1_;have GW161:=n2_;have GE161:=n3_;clear n0_ n1_ n2_ n3_;clear hb hbox hg;have hcz16_0:w15.cell? ⟨gb161,0,none⟩=some (.int .i64 a0_0):=q_ BK161 0 rfl;have hcz16_1:w15.cell? ⟨gb161,1,none⟩=some (.int .i64 a0_1):=q_ BK161 1 rfl;have hcz16_2:w15.cell? ⟨gb161,2,none⟩=some (.int .i64 a0_2):=q_ BK161 2 rfl;have hcz16_3:w15.cell? ⟨gb161,3,none⟩=some (.int .i64 a0_3):=q_ BK161 3 rfl;have hfz16_0:=blk_frozen BK161.out 0;have hfz16_1:=blk_frozen BK161.out 1;have hfz16_2:=blk_frozen BK161.out 2;have hfz16_3:=blk_frozen BK161.out 3)|((with_reducible refine gate_callee (f:=91) rfl ?_);refine goesL_ (some 5) rfl rfl Tryz.func91 (by kernel_rfl) rfl #[.int .i64 a0_0,.int .i64 1,.int .i64 9] rfl (by (try simp only [List.map_toArray,List.map_cons,List.map_nil]);first|done|rfl|(simp only [List.length_drop,List.length_take];rfl)) ?_;(with_reducible refine (impl_InRange.calls a0_0 1 9 false _ A2.out).mono ?_);rintro e w' ⟨rfl,⟨nd,rfl⟩⟩;refine ⟨_,rfl,?_⟩))
  go_ret
  exact ⟨by first|rfl|(simp [errW_none,errW_some] <;> rfl)|(simp [*,errW_none,errW_some] <;> rfl),by repeat (first|(with_reducible first|exact HB.out|apply below_alloc|apply pw_below_drewN|apply below_drew1|refine below_set ?_ GE161.out)|exact HB.out)⟩

/-! ### impl_SignMessage: function 69 -/
def impl_SignMessage.f (k:Nat) (a0:Int) (l1:List Int):Option (Int):=(impl_IsValidKey.f a0).bind fun t166 => (if t166=true then ((impl_joined.f k (([139,(l1.length:Int)]:List Int)) (([l1]:List (List Int)))).bind fun t173 => ((impl_KeyedHash.f k a0 t173).bind fun t176 => (some t176))) else (some 0))
theorem impl_SignMessage.mono:∀ a0 a1 k,LeO (impl_SignMessage.f k a0 a1) (impl_SignMessage.f (k + 1) a0 a1):=by
 intro a0 a1 k
 unfold impl_SignMessage.f
 repeat' first
  |(with_reducible exact impl_KeyedHash.mono _ _ _)
  |(with_reducible exact impl_joined.mono _ _ _)
  |(with_reducible exact LeO.refl _)
  |(with_reducible exact LeO.none _)
  |(with_reducible refine LeO.ite ?_ ?_)
  |(with_reducible refine LeO.bind ?_ (fun _ => ?_))
  |exact impl_KeyedHash.mono _ _ _
  |exact impl_joined.mono _ _ _
  |exact LeO.none _
  |refine LeO.ite ?_ ?_
  |refine LeO.bind ?_ (fun _ => ?_)
set_option maxHeartbeats 8000000 in
set_option maxRecDepth 100000 in
theorem impl_SignMessage.calls (k:Nat) (a0:Int) (P1_:Nat → Prop) (A1:Option Addr) (c1:Nat) (l1:List Int) (r:Int) (w:World) (hs1:Kd.V (Kd.int .i64) 3 w w.heap.size (fun k_ => P1_ k_) (.slice A1 l1.length c1) l1) (h:impl_SignMessage.f k a0 l1=some r) :
  Calls Tryz.prog 69 #[.int .i64 a0,.slice A1 l1.length c1] w fun e w' => e=.returned (.int .i64 r)∧Below w.heap.size w w':=by
 have HO1:=Am3_ (show Kd.V (Kd.int .i64) 3 w w.heap.size (fun k_ => (P1_ k_ ∨ w.heap.size ≤ k_)) (.slice A1 l1.length c1) l1 from Kd.V_mono hs1 (fun k_ hk => .inl hk));have HB:=Am3_ (Below.refl w.heap.size w);have H:=h;unfold impl_SignMessage.f at H;clear h;replace H:=Option.bind_eq_some_iff.mp H;obtain ⟨t166,A30,H⟩:=H
 try dsimp only at H
 have A3:=Am3_ A30;clear A30
 by_cases c4:t166=true
 ·subst c4
  rw [if_pos rfl] at H
  obtain ⟨y167,hy167⟩:∃ y_:List Int,y_=(([139,(l1.length:Int)]:List Int)):=⟨_,rfl⟩;replace H:((impl_joined.f k y167 (([l1]:List (List Int)))).bind fun t173 => ((impl_KeyedHash.f k a0 t173).bind fun t176 => (some t176)))=some r:=by first|(rw [hy167];with_reducible exact H)|(have H2_:=(Option.bind_some _ _).symm.trans H;rw [hy167];with_reducible exact H2_)|(have H2_:=(Option.bind_some _ _).symm.trans H;with_reducible exact H2_)|with_reducible exact H|(rw [hy167];exact H)|exact H
  have Ny167:=Am3_ hy167;clear hy167;obtain ⟨y170,hy170⟩:∃ y_:List (List Int),y_=(([l1]:List (List Int))):=⟨_,rfl⟩;replace H:((impl_joined.f k y167 y170).bind fun t173 => ((impl_KeyedHash.f k a0 t173).bind fun t176 => (some t176)))=some r:=by first|(rw [hy170];with_reducible exact H)|(have H2_:=(Option.bind_some _ _).symm.trans H;rw [hy170];with_reducible exact H2_)|(have H2_:=(Option.bind_some _ _).symm.trans H;with_reducible exact H2_)|with_reducible exact H|(rw [hy170];exact H)|exact H
  have Ny170:=Am3_ hy170;clear hy170;replace H:=Option.bind_eq_some_iff.mp H;obtain ⟨t173,A50,H⟩:=H
  try dsimp only at H
  have A5:=Am3_ A50;clear A50;replace H:=Option.bind_eq_some_iff.mp H;obtain ⟨t176,A60,H⟩:=H
  try dsimp only at H
  have A6:=Am3_ A60;clear A60;obtain rfl:=Option.some.inj H
  go_enter Tryz.func69,Tryz.ntmps69
  go_wp2_with (first|((with_reducible refine gate_callee (f:=100) rfl ?_);refine goesL_ (some 6) rfl rfl Tryz.func100 (by kernel_rfl) rfl #[.int .i64 a0] rfl (by (try simp only [List.map_toArray,List.map_cons,List.map_nil]);first|done|rfl|(simp only [List.length_drop,List.length_take];rfl)) ?_;(with_reducible refine (impl_IsValidKey.calls a0 true _ A3.out).mono ?_);rintro e w' ⟨rfl,⟨nd,rfl⟩⟩;refine ⟨_,rfl,?_⟩)|((with_reducible refine gate_dst (N:=11) rfl ?_);refine Kd.R_lit (Kd.int .i64) _ 3 ?hg (N:=11) ?hd (xs:=([139,(l1.length:Int)]:List Int)) (inner:=[.int .i64 139,.int .i64 (l1.length:Int)]) (ok:=fun _ => True) (okp:=fun _ => True) ?hr ?hp (fun _ hk => hk) trivial (Below.refl _ _) (Nat.le_refl _) (by simp) ?_;(case hd => rfl);(case hg => rfl);(case hr => first|(go_simp;done)|(go_simp;rfl));(case hp => exact (Reps.one (show Kd.M (Kd.int .i64) _ _ _ 139 [.int .i64 139] from rfl) (Reps.one (show Kd.M (Kd.int .i64) _ _ _ (l1.length:Int) [.int .i64 (l1.length:Int)] from rfl) (Reps.none _ _))));intro v168 w7 ho8 hb hg_ hnew_;clear hg_ hnew_;(first|rw [← Ny167.out] at ho8|(simp only [Int.reduceToNat] at ho8;rw [← Ny167.out] at ho8));have n0_:=Am3_ (Kd.V_elder' (by (with_reducible repeat (first|apply Kd.V_alloc|apply Kd.V_drewN|apply Kd.V_drew));exact HO1.out) (Kd.R_base ho8) hb);have n1_:=Am3_ (Kd.R_lower (Kd.R_newM (M:=fun k_ => (w.heap.size ≤ k_)) ho8 (below_size (xe_ HB)) (fun k_ h_ => h_)) (below_size (xe_ HB)));have n2_:=bs_ HB hb;clear HO1;clear HB;have HO1:=n0_;have HO169:=n1_;have HB:=n2_;clear n0_ n1_ n2_;clear hb ho8)|((with_reducible refine gate_dst (N:=13) rfl ?_);refine Kd.N_lit (Kd.slice 3 (Kd.int .i64)) _ 47 ?hg (N':=13) ?hd (xs:=([l1]:List (List Int))) (inner:=[.slice A1 l1.length c1]) (ok:=(fun k_ => (P1_ k_ ∨ w.heap.size ≤ k_)∧some k_ ≠ (v168:Value).ownBlock)) (okp:=(fun k_ => (P1_ k_ ∨ w.heap.size ≤ k_)∧some k_ ≠ (v168:Value).ownBlock)) ?hr ?hp (fun _ hk => hk) ((show ∀ k_,w7.heap.size ≤ k_ → (fun k_ => (P1_ k_ ∨ w.heap.size ≤ k_)∧some k_ ≠ (v168:Value).ownBlock) k_ from fun k_ hk => ⟨(.inr (Nat.le_trans (below_size (xe_ HB)) hk)),Kd.fresh' (Kd.R_lt (by (with_reducible repeat (first|apply Kd.R_alloc|apply Kd.R_drewN|apply Kd.R_drew));exact HO169.out)) k_ hk⟩) _ (Nat.le_refl _)) (Below.refl _ _) (Nat.le_refl _) (by simp) ?_;(case hd => rfl);(case hg => rfl);(case hr => first|(go_simp;done)|(go_simp;rfl));(case hp => exact (Reps.one (show Kd.FK (Kd.slice 3 (Kd.int .i64)) _ _ l1 [.slice A1 l1.length c1] from (Kd.FK_slice_mk (Kd.V_reads' (Kd.V_mono (ok':=(fun k_ => (P1_ k_ ∨ w.heap.size ≤ k_)∧some k_ ≠ (v168:Value).ownBlock)) (HO1.out) (fun k_ hk => ⟨hk.1,hk.2⟩))).2.1 (Kd.V_F (Kd.V_mono (ok':=(fun k_ => (P1_ k_ ∨ w.heap.size ≤ k_)∧some k_ ≠ (v168:Value).ownBlock)) (HO1.out) (fun k_ hk => ⟨hk.1,hk.2⟩))))) (Reps.none _ _)));intro v171 w9 ho10 hb hg_ hnew_;clear hg_ hnew_;(first|rw [← Ny170.out] at ho10|(simp only [Int.reduceToNat] at ho10;rw [← Ny170.out] at ho10));have n0_:=Am3_ (Kd.V_elder' (by (with_reducible repeat (first|apply Kd.V_alloc|apply Kd.V_drewN|apply Kd.V_drew));exact HO1.out) (Kd.N_base ho10) hb);have n1_:=Am3_ (Kd.R_below (by (with_reducible repeat (first|apply Kd.R_alloc|apply Kd.R_drewN|apply Kd.R_drew));exact HO169.out) hb);have n2_:=Am3_ (Kd.N_lower ho10 (below_size (xe_ HB)));have n3_:=bs_ HB hb;clear HO1;clear HO169;clear HB;have HO1:=n0_;have HO169:=n1_;have HO172:=n2_;have HB:=n3_;clear n0_ n1_ n2_ n3_;clear hb ho10;obtain ⟨Ao11,co11,eo11⟩:=Kd.R_slice HO169.out;subst eo11;obtain ⟨Ao12,co12,eo12⟩:=Kd.N_slice HO172.out;subst eo12)|((with_reducible refine gate_callee (f:=42) rfl ?_);refine goesL_ (some 14) rfl rfl Tryz.func42 (by kernel_rfl) rfl #[.slice Ao11 y167.length co11,.slice Ao12 y170.length co12] rfl (by (try simp only [List.map_toArray,List.map_cons,List.map_nil]);first|done|rfl|(simp only [List.length_drop,List.length_take];rfl)) ?_;(with_reducible refine (impl_joined.calls k _ _ y167 _ _ y170 t173 _ ?side1 ?side2 ?side3 ?side4 A5.out).mono ?_);(case side1 => repeat (first|exact (Kd.R_reads' HO169.out).2.2|(with_reducible refine Kd.C_alloc ?_ _)|(with_reducible refine Kd.C_drewN ?_ _)|(with_reducible refine Kd.C_drew ?_)));(case side2 => exact (Kd.R_reads' HO169.out).2.1);(case side3 => repeat (first|exact (Kd.N_reads' HO172.out).2.2|(with_reducible refine Kd.C_alloc ?_ _)|(with_reducible refine Kd.C_drewN ?_ _)|(with_reducible refine Kd.C_drew ?_)));(case side4 => exact (Kd.N_reads' HO172.out).2.1);rintro e w13 ⟨v174,rfl,ho0,hb⟩;refine ⟨_,rfl,?_⟩;have n0_:=Am3_ (Kd.V_elder' (by (with_reducible repeat (first|apply Kd.V_alloc|apply Kd.V_drewN|apply Kd.V_drew));exact HO1.out) (Kd.R_base ho0) hb);have n1_:=Am3_ (Kd.R_elder' (by (with_reducible repeat (first|apply Kd.R_alloc|apply Kd.R_drewN|apply Kd.R_drew));exact HO169.out) (Kd.R_base ho0) hb);have n2_:=Am3_ (Kd.N_elder' (by (with_reducible repeat (first|apply Kd.N_alloc|apply Kd.N_drewN|apply Kd.N_drew));exact HO172.out) (Kd.R_base ho0) hb);have n3_:=Am3_ (Kd.R_lower (Kd.R_new' (Kd.R_newM (M:=fun k_ => (w.heap.size ≤ k_)) ho0 (below_size (xe_ HB)) (fun k_ h_ => h_)) (Kd.R_lt (by (with_reducible repeat (first|apply Kd.R_alloc|apply Kd.R_drewN|apply Kd.R_drew));exact HO169.out))) (below_size (xe_ HB)));have n4_:=bs_ HB hb;clear HO1;clear HO169;clear HO172;clear HB;have HO1:=n0_;have HO169:=n1_;have HO172:=n2_;have HO175:=n3_;have HB:=n4_;clear n0_ n1_ n2_ n3_ n4_;(try clear hb);(try clear hb2);(try clear hk);(try clear hi);(try clear ho0);obtain ⟨Ao14,co14,eo14⟩:=Kd.R_slice HO175.out;subst eo14)|((with_reducible refine gate_callee (f:=80) rfl ?_);refine goesL_ (some 15) rfl rfl Tryz.func80 (by kernel_rfl) rfl #[.int .i64 a0,.slice Ao14 t173.length co14] rfl (by (try simp only [List.map_toArray,List.map_cons,List.map_nil]);first|done|rfl|(simp only [List.length_drop,List.length_take];rfl)) ?_;(with_reducible refine (impl_KeyedHash.calls k a0 (fun k_ => some k_=(.slice Ao14 t173.length co14:Value).ownBlock) _ _ t173 t176 _ ?side1 A6.out).mono ?_);(case side1 => exact Kd.R_V (Kd.R_tight rfl (Kd.R_apart' (HO175.out) (Kd.N_typed HO172.out) (by decide))));rintro e w15 ⟨rfl,hb⟩;refine ⟨_,rfl,?_⟩;have n0_:=Am3_ (Kd.V_below (by (with_reducible repeat (first|apply Kd.V_alloc|apply Kd.V_drewN|apply Kd.V_drew));exact HO1.out) hb);have n1_:=Am3_ (Kd.R_below (by (with_reducible repeat (first|apply Kd.R_alloc|apply Kd.R_drewN|apply Kd.R_drew));exact HO169.out) hb);have n2_:=Am3_ (Kd.N_below (by (with_reducible repeat (first|apply Kd.N_alloc|apply Kd.N_drewN|apply Kd.N_drew));exact HO172.out) hb);have n3_:=Am3_ (Kd.R_below (by (with_reducible repeat (first|apply Kd.R_alloc|apply Kd.R_drewN|apply Kd.R_drew));exact HO175.out) hb);have n4_:=bs_ HB hb;clear HO1;clear HO169;clear HO172;clear HO175;clear HB;have HO1:=n0_;have HO169:=n1_;have HO172:=n2_;have HO175:=n3_;have HB:=n4_;clear n0_ n1_ n2_ n3_ n4_;(try clear hb);(try clear hb2);(try clear hk);(try clear hi)))
  go_ret
  exact ⟨by first|rfl|(simp [errW_none,errW_some] <;> rfl)|(simp [*,errW_none,errW_some] <;> rfl),by repeat (first|(with_reducible first|exact HB.out|apply below_alloc|apply pw_below_drewN|apply below_drew1)|exact HB.out)⟩
 ·replace c4:=Bool.eq_false_iff.mpr c4;subst c4
  rw [if_neg (show ¬ (false=true) by decide)] at H
  obtain rfl:=Option.some.inj H
  go_enter Tryz.func69,Tryz.ntmps69
  go_wp2_with (first|((with_reducible refine gate_callee (f:=100) rfl ?_);refine goesL_ (some 6) rfl rfl Tryz.func100 (by kernel_rfl) rfl #[.int .i64 a0] rfl (by (try simp only [List.map_toArray,List.map_cons,List.map_nil]);first|done|rfl|(simp only [List.length_drop,List.length_take];rfl)) ?_;(with_reducible refine (impl_IsValidKey.calls a0 false _ A3.out).mono ?_);rintro e w' ⟨rfl,⟨nd,rfl⟩⟩;refine ⟨_,rfl,?_⟩))
  go_ret
  exact ⟨by first|rfl|(simp [errW_none,errW_some] <;> rfl)|(simp [*,errW_none,errW_some] <;> rfl),by repeat (first|(with_reducible first|exact HB.out|apply below_alloc|apply pw_below_drewN|apply below_drew1)|exact HB.out)⟩

end Go.Proofs.YtogcoedmagoogaaGreatDoor.PFnAssertions
