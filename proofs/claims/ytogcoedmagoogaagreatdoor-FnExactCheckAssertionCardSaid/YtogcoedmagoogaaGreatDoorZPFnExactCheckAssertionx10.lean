/- Functions and contracts of a law's callees, written by a program of this session (a changed print): each contract says that the machine's call answers what the plain function says. Conditions: the plain function's own answer. -/
import Derived.Test.YtogcoedmagoogaaGreatDoorZPFnExactCheckAssertionx0
import Derived.Test.YtogcoedmagoogaaGreatDoorZPFnExactCheckAssertionx6
import Derived.Test.YtogcoedmagoogaaGreatDoorZPFnExactCheckAssertionx9
namespace Go.Proofs.YtogcoedmagoogaaGreatDoor.PFnExactCheckAssertion
open Go.RowKit Go.Proofs.YtogcoedmagoogaaGreatDoorW.PrintWords Go.Proofs.YtogcoedmagoogaaGreatDoorW.PrintLast Go.Proofs.YtogcoedmagoogaaGreatDoorW.PrintMore
attribute [local go_sem] max2_int min2_int max_two min_two max_three min_three max_four min_four   -- for this text's walks alone
set_option linter.unusedVariables false
set_option linter.unusedSimpArgs false
abbrev Am10_ {p : Prop} (h : p) : Aside0 p := Aside0.mk h

namespace Y10
class Ex_ (w W:World):Prop where
 k:∀ {g:Nat} {o:Obj},w.heap[g]?=some o → W.heap[g]?=some o
 e:∀ {v:World},Below v.heap.size v w → Below v.heap.size v W
instance (priority:=low) Ex_.rf (w:World):Ex_ w w:=⟨fun h => h,fun h => h⟩
instance Ex_.dn {w W:World} [x:Ex_ w W] (n:Nat):Ex_ w (W.drewN n):=⟨fun h => blk_drewN (x.k h) n,fun h => pw_below_drewN (x.e h) n⟩
instance Ex_.dr {w W:World} [x:Ex_ w W]:Ex_ w W.drew:=⟨fun h => blk_drew (x.k h),fun h => below_drew1 (x.e h)⟩
instance Ex_.al {w W:World} [x:Ex_ w W] (o:Obj):Ex_ w (W.alloc o):=⟨fun h => blk_alloc (x.k h) o,fun h => below_alloc (x.e h) o⟩
theorem xk_ {w W:World} {g:Nat} {o:Obj} (h:Aside0 (w.heap[g]?=some o)) [x:Ex_ w W]:W.heap[g]?=some o:=x.k h.out
theorem ne1_ {w W:World} {g g':Nat} {o:Obj} (hg:g'=W.heap.size) (h:Aside0 (w.heap[g]?=some o)) [x:Ex_ w W]:Aside0 (g ≠ g'):=Am10_ (by rw [hg];exact Nat.ne_of_lt (blk_lt (x.k h.out)))
theorem ne2_ {w W:World} {g g':Nat} {o:Obj} (hg:g'=W.heap.size) (h:Aside0 (w.heap[g]?=some o)) [x:Ex_ w W]:Aside0 (g' ≠ g):=Am10_ (by rw [hg];exact Nat.ne_of_gt (blk_lt (x.k h.out)))
theorem gw_ {v w W:World} {g':Nat} (hg:g'=W.heap.size) (h:Aside0 (Below v.heap.size v w)) [x:Ex_ w W]:Aside0 (v.heap.size ≤ g'):=Am10_ (by rw [hg];exact below_size (x.e h.out))
theorem bb_ {w W W':World} {g:Nat} {o:Obj} (h:Aside0 (w.heap[g]?=some o)) (hb:Below W.heap.size W W') [x:Ex_ w W]:Aside0 (W'.heap[g]?=some o):=Am10_ (blk_below (x.k h.out) hb)
theorem bs_ {v w W W':World} (h:Aside0 (Below v.heap.size v w)) (hb:Below W.heap.size W W') [x:Ex_ w W]:Aside0 (Below v.heap.size v W'):=Am10_ (below_step (x.e h.out) hb)
theorem xe_ {v w W:World} (h:Aside0 (Below v.heap.size v w)) [x:Ex_ w W]:Below v.heap.size v W:=x.e h.out
end Y10
open Y10

namespace Y10
abbrev Sa_ := @List.setIfInBounds_toArray
abbrev Sb_ := @List.set_cons_zero
abbrev Sc_ := @List.set_cons_succ
theorem q_ {w W : World} {g : Nat} {t : TypeId} {cs : Array Value} (h : Aside0 (w.heap[g]? = some (.cells cs t (0, 0)))) (i : Nat) {v : Option Value} (e : cs[i]? = v) [x : Ex_ w W] : W.cell? ⟨g, i, none⟩ = v := (blk_cell (x.k h.out) i).trans e
end Y10
open Y10
/-! ### spec_ParseOrigin: function 29 -/
mutual
def spec_ParseOrigin.j1:Nat → ByteArray → ByteArray → Bool → ByteArray → Int → Option (Bool × ByteArray × Int × Bool)
|0,_,_,_,_,_ => none
|k + 1,x0,x5,x280000,x280001,x280002 => spec_ParseOrigin.l0 k x0 x5 0 x280000 x5 x280002
def spec_ParseOrigin.j3:Nat → ByteArray → Bool → ByteArray → Int → Option (Bool × ByteArray × Int × Bool)
|0,_,_,_,_ => none
|k + 1,x0,x280000,x280001,x280002 => (spec_IsOrigin.f k x280000 x280001 x280002).bind fun t282 => (if t282=true then ((spec_FormatOrigin.f k x280000 x280001 x280002).bind fun t283 => (if t283.toList=x0.toList then (some (x280000,x280001,x280002,true)) else (some (false,(⟨#[]⟩:ByteArray),0,false)))) else (some (false,(⟨#[]⟩:ByteArray),0,false)))
def spec_ParseOrigin.l0:Nat → ByteArray → ByteArray → Int → Bool → ByteArray → Int → Option (Bool × ByteArray × Int × Bool)
|0,_,_,_,_,_,_ => none
|k + 1,x0,x5,x6,x280000,x280001,x280002 => if x6 < (x5.size:Int) then (if 0 ≤ x6 then (if (bt x5 x6)=58 then (if 0 ≤ (wrap64 (x6 + 1)) then (if (wrap64 (x6 + 1)) ≤ (x5.size:Int) then ((spec_ParseInt.f k (x5.extract ((wrap64 (x6 + 1)):Int).toNat x5.size)).bind fun bt280 => (if bt280.2=true then (if x6 ≤ (x5.size:Int) then (spec_ParseOrigin.j3 k x0 x280000 (x5.extract 0 (x6:Int).toNat) bt280.1) else (none)) else (some (false,(⟨#[]⟩:ByteArray),0,false)))) else (none)) else (none)) else (spec_ParseOrigin.l0 k x0 x5 (wrap64 (x6 + 1)) x280000 x280001 x280002)) else (none)) else (spec_ParseOrigin.j3 k x0 x280000 x280001 x280002)
def spec_ParseOrigin.j0:Nat → ByteArray → ByteArray → Bool → Bool → ByteArray → Int → Option (Bool × ByteArray × Int × Bool)
|0,_,_,_,_,_,_ => none
|k + 1,x0,x5,x10,x280000,x280001,x280002 => if x10=true then (if 8 ≤ (x0.size:Int) then (spec_ParseOrigin.j1 k x0 (x0.extract 8 x0.size) true (⟨#[]⟩:ByteArray) 443) else (none)) else (if (x0.size:Int) > 7 then (if 0 ≤ 7 then (if 7 ≤ (x0.size:Int) then (if (x0.extract 0 7).toList=([104,116,116,112,58,47,47]:List UInt8) then (spec_ParseOrigin.j1 k x0 (x0.extract 7 x0.size) false (⟨#[]⟩:ByteArray) 80) else (spec_ParseOrigin.j1 k x0 x5 x280000 x280001 x280002)) else (none)) else (none)) else (spec_ParseOrigin.j1 k x0 x5 x280000 x280001 x280002))
end
def spec_ParseOrigin.f (k:Nat) (a0:ByteArray):Option (Bool × ByteArray × Int × Bool):=if (a0.size:Int) > 8 then (if 0 ≤ 8 then (if 8 ≤ (a0.size:Int) then (spec_ParseOrigin.j0 k a0 (⟨#[]⟩:ByteArray) ((a0.extract 0 8).toList == ([104,116,116,112,115,58,47,47]:List UInt8)) false (⟨#[]⟩:ByteArray) 0) else (none)) else (none)) else (spec_ParseOrigin.j0 k a0 (⟨#[]⟩:ByteArray) false false (⟨#[]⟩:ByteArray) 0)
theorem spec_ParseOrigin.mono_l:∀ k,(∀ y0 y1 y2 y3 y4,LeO (spec_ParseOrigin.j1 k y0 y1 y2 y3 y4) (spec_ParseOrigin.j1 (k + 1) y0 y1 y2 y3 y4))∧(∀ y0 y1 y2 y3,LeO (spec_ParseOrigin.j3 k y0 y1 y2 y3) (spec_ParseOrigin.j3 (k + 1) y0 y1 y2 y3))∧(∀ y0 y1 y2 y3 y4 y5,LeO (spec_ParseOrigin.l0 k y0 y1 y2 y3 y4 y5) (spec_ParseOrigin.l0 (k + 1) y0 y1 y2 y3 y4 y5))∧(∀ y0 y1 y2 y3 y4 y5,LeO (spec_ParseOrigin.j0 k y0 y1 y2 y3 y4 y5) (spec_ParseOrigin.j0 (k + 1) y0 y1 y2 y3 y4 y5))
|0 => ⟨fun _ _ _ _ _ r h => by simp [spec_ParseOrigin.j1] at h,fun _ _ _ _ r h => by simp [spec_ParseOrigin.j3] at h,fun _ _ _ _ _ _ r h => by simp [spec_ParseOrigin.l0] at h,fun _ _ _ _ _ _ r h => by simp [spec_ParseOrigin.j0] at h⟩
|k + 1 => by
  obtain ⟨ih0,ih1,ih2,ih3⟩:=spec_ParseOrigin.mono_l k;refine ⟨?_,?_,?_,?_⟩
  ·intro y0 y1 y2 y3 y4
   unfold spec_ParseOrigin.j1
   repeat' first
  |(with_reducible exact ih0 _ _ _ _ _)
  |(with_reducible exact ih1 _ _ _ _)
  |(with_reducible exact ih2 _ _ _ _ _ _)
  |(with_reducible exact ih3 _ _ _ _ _ _)
  |(with_reducible exact spec_FormatOrigin.mono _ _ _ _)
  |(with_reducible exact spec_IsOrigin.mono _ _ _ _)
  |(with_reducible exact spec_ParseInt.mono _ _)
  |(with_reducible exact LeO.refl _)
  |(with_reducible exact LeO.none _)
  |(with_reducible refine LeO.ite ?_ ?_)
  |(with_reducible refine LeO.bind ?_ (fun _ => ?_))
  |exact ih0 _ _ _ _ _
  |exact ih1 _ _ _ _
  |exact ih2 _ _ _ _ _ _
  |exact ih3 _ _ _ _ _ _
  |exact spec_FormatOrigin.mono _ _ _ _
  |exact spec_IsOrigin.mono _ _ _ _
  |exact spec_ParseInt.mono _ _
  |exact LeO.none _
  |refine LeO.ite ?_ ?_
  |refine LeO.bind ?_ (fun _ => ?_)
  ·intro y0 y1 y2 y3
   unfold spec_ParseOrigin.j3
   repeat' first
  |(with_reducible exact ih0 _ _ _ _ _)
  |(with_reducible exact ih1 _ _ _ _)
  |(with_reducible exact ih2 _ _ _ _ _ _)
  |(with_reducible exact ih3 _ _ _ _ _ _)
  |(with_reducible exact spec_FormatOrigin.mono _ _ _ _)
  |(with_reducible exact spec_IsOrigin.mono _ _ _ _)
  |(with_reducible exact spec_ParseInt.mono _ _)
  |(with_reducible exact LeO.refl _)
  |(with_reducible exact LeO.none _)
  |(with_reducible refine LeO.ite ?_ ?_)
  |(with_reducible refine LeO.bind ?_ (fun _ => ?_))
  |exact ih0 _ _ _ _ _
  |exact ih1 _ _ _ _
  |exact ih2 _ _ _ _ _ _
  |exact ih3 _ _ _ _ _ _
  |exact spec_FormatOrigin.mono _ _ _ _
  |exact spec_IsOrigin.mono _ _ _ _
  |exact spec_ParseInt.mono _ _
  |exact LeO.none _
  |refine LeO.ite ?_ ?_
  |refine LeO.bind ?_ (fun _ => ?_)
  ·intro y0 y1 y2 y3 y4 y5
   unfold spec_ParseOrigin.l0
   repeat' first
  |(with_reducible exact ih0 _ _ _ _ _)
  |(with_reducible exact ih1 _ _ _ _)
  |(with_reducible exact ih2 _ _ _ _ _ _)
  |(with_reducible exact ih3 _ _ _ _ _ _)
  |(with_reducible exact spec_FormatOrigin.mono _ _ _ _)
  |(with_reducible exact spec_IsOrigin.mono _ _ _ _)
  |(with_reducible exact spec_ParseInt.mono _ _)
  |(with_reducible exact LeO.refl _)
  |(with_reducible exact LeO.none _)
  |(with_reducible refine LeO.ite ?_ ?_)
  |(with_reducible refine LeO.bind ?_ (fun _ => ?_))
  |exact ih0 _ _ _ _ _
  |exact ih1 _ _ _ _
  |exact ih2 _ _ _ _ _ _
  |exact ih3 _ _ _ _ _ _
  |exact spec_FormatOrigin.mono _ _ _ _
  |exact spec_IsOrigin.mono _ _ _ _
  |exact spec_ParseInt.mono _ _
  |exact LeO.none _
  |refine LeO.ite ?_ ?_
  |refine LeO.bind ?_ (fun _ => ?_)
  ·intro y0 y1 y2 y3 y4 y5
   unfold spec_ParseOrigin.j0
   repeat' first
  |(with_reducible exact ih0 _ _ _ _ _)
  |(with_reducible exact ih1 _ _ _ _)
  |(with_reducible exact ih2 _ _ _ _ _ _)
  |(with_reducible exact ih3 _ _ _ _ _ _)
  |(with_reducible exact spec_FormatOrigin.mono _ _ _ _)
  |(with_reducible exact spec_IsOrigin.mono _ _ _ _)
  |(with_reducible exact spec_ParseInt.mono _ _)
  |(with_reducible exact LeO.refl _)
  |(with_reducible exact LeO.none _)
  |(with_reducible refine LeO.ite ?_ ?_)
  |(with_reducible refine LeO.bind ?_ (fun _ => ?_))
  |exact ih0 _ _ _ _ _
  |exact ih1 _ _ _ _
  |exact ih2 _ _ _ _ _ _
  |exact ih3 _ _ _ _ _ _
  |exact spec_FormatOrigin.mono _ _ _ _
  |exact spec_IsOrigin.mono _ _ _ _
  |exact spec_ParseInt.mono _ _
  |exact LeO.none _
  |refine LeO.ite ?_ ?_
  |refine LeO.bind ?_ (fun _ => ?_)
theorem spec_ParseOrigin.mono:∀ a0 k,LeO (spec_ParseOrigin.f k a0) (spec_ParseOrigin.f (k + 1) a0):=by
 intro a0 k;obtain ⟨ih0,ih1,ih2,ih3⟩:=spec_ParseOrigin.mono_l k
 unfold spec_ParseOrigin.f
 repeat' first
  |(with_reducible exact ih0 _ _ _ _ _)
  |(with_reducible exact ih1 _ _ _ _)
  |(with_reducible exact ih2 _ _ _ _ _ _)
  |(with_reducible exact ih3 _ _ _ _ _ _)
  |(with_reducible exact spec_FormatOrigin.mono _ _ _ _)
  |(with_reducible exact spec_IsOrigin.mono _ _ _ _)
  |(with_reducible exact spec_ParseInt.mono _ _)
  |(with_reducible exact LeO.refl _)
  |(with_reducible exact LeO.none _)
  |(with_reducible refine LeO.ite ?_ ?_)
  |(with_reducible refine LeO.bind ?_ (fun _ => ?_))
  |exact ih0 _ _ _ _ _
  |exact ih1 _ _ _ _
  |exact ih2 _ _ _ _ _ _
  |exact ih3 _ _ _ _ _ _
  |exact spec_FormatOrigin.mono _ _ _ _
  |exact spec_IsOrigin.mono _ _ _ _
  |exact spec_ParseInt.mono _ _
  |exact LeO.none _
  |refine LeO.ite ?_ ?_
  |refine LeO.bind ?_ (fun _ => ?_)
set_option maxHeartbeats 8000000 in
set_option maxRecDepth 100000 in
theorem spec_ParseOrigin.calls (k:Nat) (a0:ByteArray) (r1:Bool) (r2:ByteArray) (r3:Int) (r4:Bool) (w:World) (h:spec_ParseOrigin.f k a0=some (r1,r2,r3,r4)) :
  Calls Tryz.prog 29 #[.string a0] w fun e w' => e=.returned (.tuple #[.agg #[.bool r1,.string r2,.int .i64 r3],.bool r4])∧Below w.heap.size w w':=by
 have hu28:=Tryz.underlying28;have HB:=Am10_ (Below.refl w.heap.size w);have H:=h;unfold spec_ParseOrigin.f at H;clear h;have HC2:=Am10_ H;clear H
 go_enter Tryz.func29,Tryz.ntmps29
 go_upto_block 0 with (first|((with_reducible refine gate_dst (N:=2) rfl ?_);refine box_event ?hg (N:=2) ?hd (cs:=#[.bool false,.string (⟨#[]⟩:ByteArray),.int .i64 0]) (t:=28) ?hr ?_;(case hd => rfl);(case hg => rfl);(case hr => first|(go_simp;done)|(go_simp;rfl));intro gb278 hg w3 hbox hb;have n0_:=bs_ HB hb;have n1_:=Am10_ (hbox);have n2_:=gw_ hg HB;have n3_:=gw_ hg HB;clear HB;have HB:=n0_;have BK278:=n1_;have GW278:=n2_;have GE278:=n3_;clear n0_ n1_ n2_ n3_;clear hb hbox hg)|((with_reducible refine gate_dst (N:=4) rfl ?_);refine box_event ?hg (N:=4) ?hd (cs:=#[.bool false,.string (⟨#[]⟩:ByteArray),.int .i64 0]) (t:=28) ?hr ?_;(case hd => rfl);(case hg => rfl);(case hr => first|(go_simp;done)|(go_simp;rfl));intro gb279 hg w4 hbox hb;have n0_:=bb_ BK278 hb;have n1_:=bs_ HB hb;have n2_:=Am10_ (hbox);have n3_:=gw_ hg HB;have n4_:=gw_ hg HB;have n5_:=ne1_ hg BK278;have n6_:=ne2_ hg BK278;clear BK278;clear HB;have BK278:=n0_;have HB:=n1_;have BK279:=n2_;have GW279:=n3_;have GE279:=n4_;have NB278_279:=n5_;have NB279_278:=n6_;clear n0_ n1_ n2_ n3_ n4_ n5_ n6_;clear hb hbox hg;have hnb5:=NB279_278.out;have hnc5:=NB278_279.out;have hcz6_0:w4.cell? ⟨gb279,0,none⟩=some (.bool false):=q_ BK279 0 rfl;have hcz6_1:w4.cell? ⟨gb279,1,none⟩=some (.string (⟨#[]⟩:ByteArray)):=q_ BK279 1 rfl;have hcz6_2:w4.cell? ⟨gb279,2,none⟩=some (.int .i64 0):=q_ BK279 2 rfl;have hfz6_0:=blk_frozen BK279.out 0;have hfz6_1:=blk_frozen BK279.out 1;have hfz6_2:=blk_frozen BK279.out 2))
 (try simp only [Act.put,Sa_,Sb_,Sc_])
 go_cut [5] (fun v5 wc => ∃ (kq:Nat) (x5_1:ByteArray) (x280000_1:Bool) (x280001_1:ByteArray) (x280002_1:Int),v5=.string x5_1∧Aside0 (spec_ParseOrigin.j1 kq a0 x5_1 x280000_1 x280001_1 x280002_1=some (r1,r2,r3,r4))∧Aside0 (kq ≤ k)∧Aside0 (wc.heap[gb278]?=some (.cells #[.bool false,.string (⟨#[]⟩:ByteArray),.int .i64 0] 28 (0,0)))∧Aside0 (wc.heap[gb279]?=some (.cells #[.bool x280000_1,.string x280001_1,.int .i64 x280002_1] 28 (0,0)))∧Aside0 (Below w.heap.size w wc))
 case first =>
  have H:=HC2.out;clear HC2;have HC7:=Am10_ H;clear H
  go_upto_region 3 with (fail)
  go_cut [10] (fun v10 wc => ∃ (kq:Nat) (x10_6:Bool),v10=.bool x10_6∧Aside0 (spec_ParseOrigin.j0 kq a0 (⟨#[]⟩:ByteArray) x10_6 false (⟨#[]⟩:ByteArray) 0=some (r1,r2,r3,r4))∧Aside0 (kq ≤ k)∧Aside0 (wc.heap[gb278]?=some (.cells #[.bool false,.string (⟨#[]⟩:ByteArray),.int .i64 0] 28 (0,0)))∧Aside0 (wc.heap[gb279]?=some (.cells #[.bool false,.string (⟨#[]⟩:ByteArray),.int .i64 0] 28 (0,0)))∧Aside0 (Below w.heap.size w wc))
  case first =>
   have H:=HC7.out;clear HC7
   by_cases c8:(a0.size:Int) > 8
   ·rw [if_pos c8] at H
    have c8b0:decide (8 < (a0.size:Int))=true:=decide_eq_true c8;have c8b1:decide (8 < a0.size)=true:=decide_eq_true (by omega);clear c8
    (first|rw [c8b0]|(simp only [i64_w,i32_w];rw [c8b0])|skip)
    by_cases c9:0 ≤ 8
    ·rw [if_pos c9] at H
     have c9b0:=eq_true c9;have c9b1:decide (0 ≤ 8)=true:=decide_eq_true c9;clear c9
     by_cases c10:8 ≤ (a0.size:Int)
     ·rw [if_pos c10] at H
      have c10b0:=eq_true c10;have c10b1:decide (8 ≤ (a0.size:Int))=true:=decide_eq_true c10;clear c10;have H':=Am10_ H;clear H
      go_wp2
      go_meet
      case rel => exact ⟨_,(((a0.extract 0 8).toList == ([104,116,116,112,115,58,47,47]:List UInt8))),(by first|rfl|(simp;done)|(simp [*];done)),H',⟨by first|omega|exact Nat.le_refl _⟩,⟨by (with_reducible repeat (first|refine blk_drewN ?_ _|refine blk_drew ?_|refine blk_alloc ?_ _));refine blk_far ?_ NB278_279.out _;(with_reducible repeat (first|refine blk_drewN ?_ _|refine blk_drew ?_|refine blk_alloc ?_ _));refine blk_far ?_ NB278_279.out _;(with_reducible repeat (first|refine blk_drewN ?_ _|refine blk_drew ?_|refine blk_alloc ?_ _));refine blk_far ?_ NB278_279.out _;(with_reducible repeat (first|refine blk_drewN ?_ _|refine blk_drew ?_|refine blk_alloc ?_ _));exact BK278.out⟩,⟨by (with_reducible repeat (first|refine blk_drewN ?_ _|refine blk_drew ?_|refine blk_alloc ?_ _));refine blk_put (cs:=#[.bool false,.string (⟨#[]⟩:ByteArray),.int .i64 0]) ?_ 2 _ rfl;(with_reducible repeat (first|refine blk_drewN ?_ _|refine blk_drew ?_|refine blk_alloc ?_ _));refine blk_put (cs:=#[.bool false,.string (⟨#[]⟩:ByteArray),.int .i64 0]) ?_ 1 _ rfl;(with_reducible repeat (first|refine blk_drewN ?_ _|refine blk_drew ?_|refine blk_alloc ?_ _));refine blk_put (cs:=#[.bool false,.string (⟨#[]⟩:ByteArray),.int .i64 0]) ?_ 0 _ rfl;(with_reducible repeat (first|refine blk_drewN ?_ _|refine blk_drew ?_|refine blk_alloc ?_ _));exact BK279.out⟩,⟨by repeat (first|(with_reducible first|exact HB.out|apply below_alloc|apply pw_below_drewN|apply below_drew1|refine below_set ?_ GE278.out|refine below_set ?_ GE279.out)|exact HB.out)⟩⟩
     ·rw [if_neg c10] at H
      exact absurd H (by simp)
    ·rw [if_neg c9] at H
     exact absurd H (by simp)
   ·rw [if_neg c8] at H
    have c8b0:decide (8 < (a0.size:Int))=false:=decide_eq_false c8;have c8b1:decide (8 < a0.size)=false:=decide_eq_false (by omega);clear c8
    (first|rw [c8b0]|(simp only [i64_w,i32_w];rw [c8b0])|skip)
    have H':=Am10_ H;clear H
    go_wp2
    go_meet
    case rel => exact ⟨_,(false),(by first|rfl|(simp;done)|(simp [*];done)),H',⟨by first|omega|exact Nat.le_refl _⟩,⟨by (with_reducible repeat (first|refine blk_drewN ?_ _|refine blk_drew ?_|refine blk_alloc ?_ _));refine blk_far ?_ NB278_279.out _;(with_reducible repeat (first|refine blk_drewN ?_ _|refine blk_drew ?_|refine blk_alloc ?_ _));refine blk_far ?_ NB278_279.out _;(with_reducible repeat (first|refine blk_drewN ?_ _|refine blk_drew ?_|refine blk_alloc ?_ _));refine blk_far ?_ NB278_279.out _;(with_reducible repeat (first|refine blk_drewN ?_ _|refine blk_drew ?_|refine blk_alloc ?_ _));exact BK278.out⟩,⟨by (with_reducible repeat (first|refine blk_drewN ?_ _|refine blk_drew ?_|refine blk_alloc ?_ _));refine blk_put (cs:=#[.bool false,.string (⟨#[]⟩:ByteArray),.int .i64 0]) ?_ 2 _ rfl;(with_reducible repeat (first|refine blk_drewN ?_ _|refine blk_drew ?_|refine blk_alloc ?_ _));refine blk_put (cs:=#[.bool false,.string (⟨#[]⟩:ByteArray),.int .i64 0]) ?_ 1 _ rfl;(with_reducible repeat (first|refine blk_drewN ?_ _|refine blk_drew ?_|refine blk_alloc ?_ _));refine blk_put (cs:=#[.bool false,.string (⟨#[]⟩:ByteArray),.int .i64 0]) ?_ 0 _ rfl;(with_reducible repeat (first|refine blk_drewN ?_ _|refine blk_drew ?_|refine blk_alloc ?_ _));exact BK279.out⟩,⟨by repeat (first|(with_reducible first|exact HB.out|apply below_alloc|apply pw_below_drewN|apply below_drew1|refine below_set ?_ GE278.out|refine below_set ?_ GE279.out)|exact HB.out)⟩⟩
  case rest =>
   clear HC7
   try clear c1
   try clear c2
   try clear p2
   try clear c5
   try clear c8
   try clear c8b0
   try clear c8b1
   try clear c9
   try clear c9b0
   try clear c9b1
   try clear c10
   try clear c10b0
   try clear c10b1
   try clear hcz6_0
   try clear hcz6_1
   try clear hcz6_2
   try clear hfz6_0
   try clear hfz6_1
   try clear hfz6_2
   obtain ⟨kq,x10_6,rfl,HA,HJ6,BK278,BK279,HB⟩:=hcut
   cases kq with
  |zero => exact absurd HA.out (by simp [spec_ParseOrigin.j0])
  |succ kj6 =>
    have H:=HA.out;clear HA;simp only [spec_ParseOrigin.j0] at H
    by_cases c11:x10_6=true
    ·subst c11
     rw [if_pos rfl] at H
     by_cases c12:8 ≤ (a0.size:Int)
     ·rw [if_pos c12] at H
      have c12b0:=eq_true c12;have c12b1:decide (8 ≤ (a0.size:Int))=true:=decide_eq_true c12;clear c12;have H':=Am10_ H;clear H;have hnb13:=NB279_278.out;have hnc13:=NB278_279.out;have hcz14_0:wc.cell? ⟨gb279,0,none⟩=some (.bool false):=q_ BK279 0 rfl;have hcz14_1:wc.cell? ⟨gb279,1,none⟩=some (.string (⟨#[]⟩:ByteArray)):=q_ BK279 1 rfl;have hcz14_2:wc.cell? ⟨gb279,2,none⟩=some (.int .i64 0):=q_ BK279 2 rfl;have hfz14_0:=blk_frozen BK279.out 0;have hfz14_1:=blk_frozen BK279.out 1;have hfz14_2:=blk_frozen BK279.out 2
      go_wp2
      go_meet
      case rel => exact ⟨_,(a0.extract 8 a0.size),(true),((⟨#[]⟩:ByteArray)),(443),(by first|rfl|(simp;done)|(simp [*];done)),H',⟨by have:=HJ6.out;first|omega|exact Nat.le_refl _⟩,⟨by (with_reducible repeat (first|refine blk_drewN ?_ _|refine blk_drew ?_|refine blk_alloc ?_ _));refine blk_far ?_ NB278_279.out _;(with_reducible repeat (first|refine blk_drewN ?_ _|refine blk_drew ?_|refine blk_alloc ?_ _));refine blk_far ?_ NB278_279.out _;(with_reducible repeat (first|refine blk_drewN ?_ _|refine blk_drew ?_|refine blk_alloc ?_ _));refine blk_far ?_ NB278_279.out _;(with_reducible repeat (first|refine blk_drewN ?_ _|refine blk_drew ?_|refine blk_alloc ?_ _));exact BK278.out⟩,⟨by (with_reducible repeat (first|refine blk_drewN ?_ _|refine blk_drew ?_|refine blk_alloc ?_ _));refine blk_put (cs:=#[.bool true,.string (⟨#[]⟩:ByteArray),.int .i64 0]) ?_ 2 _ rfl;(with_reducible repeat (first|refine blk_drewN ?_ _|refine blk_drew ?_|refine blk_alloc ?_ _));refine blk_put (cs:=#[.bool true,.string (⟨#[]⟩:ByteArray),.int .i64 0]) ?_ 1 _ rfl;(with_reducible repeat (first|refine blk_drewN ?_ _|refine blk_drew ?_|refine blk_alloc ?_ _));refine blk_put (cs:=#[.bool false,.string (⟨#[]⟩:ByteArray),.int .i64 0]) ?_ 0 _ rfl;(with_reducible repeat (first|refine blk_drewN ?_ _|refine blk_drew ?_|refine blk_alloc ?_ _));exact BK279.out⟩,⟨by repeat (first|(with_reducible first|exact HB.out|apply below_alloc|apply pw_below_drewN|apply below_drew1|refine below_set ?_ GE278.out|refine below_set ?_ GE279.out)|exact HB.out)⟩⟩
     ·rw [if_neg c12] at H
      exact absurd H (by simp)
    ·replace c11:=Bool.eq_false_iff.mpr c11;subst c11
     rw [if_neg (show ¬ (false=true) by decide)] at H
     by_cases c15:(a0.size:Int) > 7
     ·rw [if_pos c15] at H
      have c15b0:decide (7 < (a0.size:Int))=true:=decide_eq_true c15;have c15b1:decide (7 < a0.size)=true:=decide_eq_true (by omega);clear c15
      by_cases c16:0 ≤ 7
      ·rw [if_pos c16] at H
       have c16b0:=eq_true c16;have c16b1:decide (0 ≤ 7)=true:=decide_eq_true c16;clear c16
       by_cases c17:7 ≤ (a0.size:Int)
       ·rw [if_pos c17] at H
        have c17b0:=eq_true c17;have c17b1:decide (7 ≤ (a0.size:Int))=true:=decide_eq_true c17;clear c17
        by_cases c18:(a0.extract 0 7).toList=([104,116,116,112,58,47,47]:List UInt8)
        ·rw [if_pos c18] at H
         have c18b0:((a0.extract 0 7).toList == ([104,116,116,112,58,47,47]:List UInt8))=true:=beq_iff_eq.mpr c18;have c18b1:((a0.extract 0 7).toList != ([104,116,116,112,58,47,47]:List UInt8))=false:=bne_eq_false_iff_eq.mpr c18;clear c18;have c19b0:=eq_true (of_decide_eq_true (by first|(with_reducible assumption)|assumption):7 ≤ (a0.size:Int));have H':=Am10_ H;clear H;have hnb20:=NB279_278.out;have hnc20:=NB278_279.out;have hcz21_0:wc.cell? ⟨gb279,0,none⟩=some (.bool false):=q_ BK279 0 rfl;have hcz21_1:wc.cell? ⟨gb279,1,none⟩=some (.string (⟨#[]⟩:ByteArray)):=q_ BK279 1 rfl;have hcz21_2:wc.cell? ⟨gb279,2,none⟩=some (.int .i64 0):=q_ BK279 2 rfl;have hfz21_0:=blk_frozen BK279.out 0;have hfz21_1:=blk_frozen BK279.out 1;have hfz21_2:=blk_frozen BK279.out 2
         go_wp2
         go_meet
         case rel => exact ⟨_,(a0.extract 7 a0.size),(false),((⟨#[]⟩:ByteArray)),(80),(by first|rfl|(simp;done)|(simp [*];done)),H',⟨by have:=HJ6.out;first|omega|exact Nat.le_refl _⟩,⟨by (with_reducible repeat (first|refine blk_drewN ?_ _|refine blk_drew ?_|refine blk_alloc ?_ _));refine blk_far ?_ NB278_279.out _;(with_reducible repeat (first|refine blk_drewN ?_ _|refine blk_drew ?_|refine blk_alloc ?_ _));refine blk_far ?_ NB278_279.out _;(with_reducible repeat (first|refine blk_drewN ?_ _|refine blk_drew ?_|refine blk_alloc ?_ _));refine blk_far ?_ NB278_279.out _;(with_reducible repeat (first|refine blk_drewN ?_ _|refine blk_drew ?_|refine blk_alloc ?_ _));exact BK278.out⟩,⟨by (with_reducible repeat (first|refine blk_drewN ?_ _|refine blk_drew ?_|refine blk_alloc ?_ _));refine blk_put (cs:=#[.bool false,.string (⟨#[]⟩:ByteArray),.int .i64 0]) ?_ 2 _ rfl;(with_reducible repeat (first|refine blk_drewN ?_ _|refine blk_drew ?_|refine blk_alloc ?_ _));refine blk_put (cs:=#[.bool false,.string (⟨#[]⟩:ByteArray),.int .i64 0]) ?_ 1 _ rfl;(with_reducible repeat (first|refine blk_drewN ?_ _|refine blk_drew ?_|refine blk_alloc ?_ _));refine blk_put (cs:=#[.bool false,.string (⟨#[]⟩:ByteArray),.int .i64 0]) ?_ 0 _ rfl;(with_reducible repeat (first|refine blk_drewN ?_ _|refine blk_drew ?_|refine blk_alloc ?_ _));exact BK279.out⟩,⟨by repeat (first|(with_reducible first|exact HB.out|apply below_alloc|apply pw_below_drewN|apply below_drew1|refine below_set ?_ GE278.out|refine below_set ?_ GE279.out)|exact HB.out)⟩⟩
        ·rw [if_neg c18] at H
         have c18b0:((a0.extract 0 7).toList == ([104,116,116,112,58,47,47]:List UInt8))=false:=beq_eq_false_iff_ne.mpr c18;have c18b1:((a0.extract 0 7).toList != ([104,116,116,112,58,47,47]:List UInt8))=true:=bne_iff_ne.mpr c18;have H':=Am10_ H;clear H
         go_wp2
         go_meet
         case rel => exact ⟨_,((⟨#[]⟩:ByteArray)),(false),((⟨#[]⟩:ByteArray)),(0),(by first|rfl|(simp;done)|(simp [*];done)),H',⟨by have:=HJ6.out;first|omega|exact Nat.le_refl _⟩,⟨by (with_reducible repeat (first|refine blk_drewN ?_ _|refine blk_drew ?_|refine blk_alloc ?_ _));exact BK278.out⟩,⟨by (with_reducible repeat (first|refine blk_drewN ?_ _|refine blk_drew ?_|refine blk_alloc ?_ _));exact BK279.out⟩,⟨by repeat (first|(with_reducible first|exact HB.out|apply below_alloc|apply pw_below_drewN|apply below_drew1|refine below_set ?_ GE278.out|refine below_set ?_ GE279.out)|exact HB.out)⟩⟩
       ·rw [if_neg c17] at H
        exact absurd H (by simp)
      ·rw [if_neg c16] at H
       exact absurd H (by simp)
     ·rw [if_neg c15] at H
      have c15b0:decide (7 < (a0.size:Int))=false:=decide_eq_false c15;have c15b1:decide (7 < a0.size)=false:=decide_eq_false (by omega);clear c15;have H':=Am10_ H;clear H
      go_wp2
      go_meet
      case rel => exact ⟨_,((⟨#[]⟩:ByteArray)),(false),((⟨#[]⟩:ByteArray)),(0),(by first|rfl|(simp;done)|(simp [*];done)),H',⟨by have:=HJ6.out;first|omega|exact Nat.le_refl _⟩,⟨by (with_reducible repeat (first|refine blk_drewN ?_ _|refine blk_drew ?_|refine blk_alloc ?_ _));exact BK278.out⟩,⟨by (with_reducible repeat (first|refine blk_drewN ?_ _|refine blk_drew ?_|refine blk_alloc ?_ _));exact BK279.out⟩,⟨by repeat (first|(with_reducible first|exact HB.out|apply below_alloc|apply pw_below_drewN|apply below_drew1|refine below_set ?_ GE278.out|refine below_set ?_ GE279.out)|exact HB.out)⟩⟩
 case rest =>
  clear HC2
  try clear c1
  try clear c2
  try clear p2
  try clear c5
  try clear c8
  try clear c8b0
  try clear c8b1
  try clear c9
  try clear c9b0
  try clear c9b1
  try clear c10
  try clear c10b0
  try clear c10b1
  try clear c11
  try clear c12
  try clear c12b0
  try clear c12b1
  try clear c13
  try clear c15
  try clear c15b0
  try clear c15b1
  try clear c16
  try clear c16b0
  try clear c16b1
  try clear c17
  try clear c17b0
  try clear c17b1
  try clear c18
  try clear c18b0
  try clear c18b1
  try clear c19
  try clear c19b0
  try clear c20
  try clear hcz14_0
  try clear hcz14_1
  try clear hcz14_2
  try clear hcz21_0
  try clear hcz21_1
  try clear hcz21_2
  try clear hcz6_0
  try clear hcz6_1
  try clear hcz6_2
  try clear hfz14_0
  try clear hfz14_1
  try clear hfz14_2
  try clear hfz21_0
  try clear hfz21_1
  try clear hfz21_2
  try clear hfz6_0
  try clear hfz6_1
  try clear hfz6_2
  try clear p2
  obtain ⟨kq,x5_1,x280000_1,x280001_1,x280002_1,rfl,HA,HJ1,BK278,BK279,HB⟩:=hcut
  cases kq with
 |zero => exact absurd HA.out (by simp [spec_ParseOrigin.j1])
 |succ kj1 =>
   have H:=HA.out;clear HA;simp only [spec_ParseOrigin.j1] at H;have HC22:=Am10_ H;clear H;have hnb23:=NB279_278.out;have hnc23:=NB278_279.out;have hcz24_0:wc.cell? ⟨gb279,0,none⟩=some (.bool x280000_1):=q_ BK279 0 rfl;have hcz24_1:wc.cell? ⟨gb279,1,none⟩=some (.string x280001_1):=q_ BK279 1 rfl;have hcz24_2:wc.cell? ⟨gb279,2,none⟩=some (.int .i64 x280002_1):=q_ BK279 2 rfl;have hfz24_0:=blk_frozen BK279.out 0;have hfz24_1:=blk_frozen BK279.out 1;have hfz24_2:=blk_frozen BK279.out 2
   go_upto_block 1 with (fail)
   go_cut [] (fun wc => ∃ (kq:Nat) (x279000_21:Bool) (x279001_21:ByteArray) (x279002_21:Int) (x280001_21:ByteArray) (x280002_21:Int),Aside0 (spec_ParseOrigin.j3 kq a0 x280000_1 x280001_21 x280002_21=some (r1,r2,r3,r4))∧Aside0 (kq ≤ kj1)∧Aside0 (wc.heap[gb278]?=some (.cells #[.bool x279000_21,.string x279001_21,.int .i64 x279002_21] 28 (0,0)))∧Aside0 (wc.heap[gb279]?=some (.cells #[.bool x280000_1,.string x280001_21,.int .i64 x280002_21] 28 (0,0)))∧Aside0 (Below w.heap.size w wc))
   case first =>
    have H:=HC22.out;clear HC22;have H':=Am10_ H;clear H
    go_wp2
    go_loopg [6] kj1 (fun kq v6 w' => ∃ (x6_2:Int) (x279000_2:Bool) (x279001_2:ByteArray) (x279002_2:Int) (x280001_2:ByteArray) (x280002_2:Int),v6=.int .i64 x6_2∧Aside0 (spec_ParseOrigin.l0 kq a0 x5_1 x6_2 x280000_1 x280001_2 x280002_2=some (r1,r2,r3,r4))∧Aside0 (kq ≤ kj1)∧Aside0 (w'.heap[gb278]?=some (.cells #[.bool x279000_2,.string x279001_2,.int .i64 x279002_2] 28 (0,0)))∧Aside0 (w'.heap[gb279]?=some (.cells #[.bool x280000_1,.string x280001_2,.int .i64 x280002_2] 28 (0,0)))∧Aside0 (Below w.heap.size w w'))
    case atStart => exact ⟨(0),(false),((⟨#[]⟩:ByteArray)),(0),(x5_1),(x280002_1),(by first|rfl|(simp;done)|(simp [*];done)),H',⟨Nat.le_refl _⟩,⟨by (with_reducible repeat (first|refine blk_drewN ?_ _|refine blk_drew ?_|refine blk_alloc ?_ _));refine blk_far ?_ NB278_279.out _;(with_reducible repeat (first|refine blk_drewN ?_ _|refine blk_drew ?_|refine blk_alloc ?_ _));exact BK278.out⟩,⟨by (with_reducible repeat (first|refine blk_drewN ?_ _|refine blk_drew ?_|refine blk_alloc ?_ _));refine blk_put (cs:=#[.bool x280000_1,.string x280001_1,.int .i64 x280002_1]) ?_ 1 _ rfl;(with_reducible repeat (first|refine blk_drewN ?_ _|refine blk_drew ?_|refine blk_alloc ?_ _));exact BK279.out⟩,⟨by repeat (first|(with_reducible first|exact HB.out|apply below_alloc|apply pw_below_drewN|apply below_drew1|refine below_set ?_ GE278.out|refine below_set ?_ GE279.out)|exact HB.out)⟩⟩
    case round =>
     clear H'
     try clear c1
     try clear c2
     try clear p2
     try clear c5
     try clear c8
     try clear c8b0
     try clear c8b1
     try clear c9
     try clear c9b0
     try clear c9b1
     try clear c10
     try clear c10b0
     try clear c10b1
     try clear c11
     try clear c12
     try clear c12b0
     try clear c12b1
     try clear c13
     try clear c15
     try clear c15b0
     try clear c15b1
     try clear c16
     try clear c16b0
     try clear c16b1
     try clear c17
     try clear c17b0
     try clear c17b1
     try clear c18
     try clear c18b0
     try clear c18b1
     try clear c19
     try clear c19b0
     try clear c20
     try clear c23
     try clear hcz14_0
     try clear hcz14_1
     try clear hcz14_2
     try clear hcz21_0
     try clear hcz21_1
     try clear hcz21_2
     try clear hcz24_0
     try clear hcz24_1
     try clear hcz24_2
     try clear hcz6_0
     try clear hcz6_1
     try clear hcz6_2
     try clear hfz14_0
     try clear hfz14_1
     try clear hfz14_2
     try clear hfz21_0
     try clear hfz21_1
     try clear hfz21_2
     try clear hfz24_0
     try clear hfz24_1
     try clear hfz24_2
     try clear hfz6_0
     try clear hfz6_1
     try clear hfz6_2
     try clear p2
     obtain ⟨x6_2,x279000_2,x279001_2,x279002_2,x280001_2,x280002_2,rfl,HA,HK2,BK278,BK279,HB⟩:=hrel
     cases gk with
    |zero => exact absurd HA.out (by simp [spec_ParseOrigin.l0])
    |succ k2 =>
      have H:=HA.out;clear HA;simp only [spec_ParseOrigin.l0] at H
      by_cases c25:x6_2 < (x5_1.size:Int)
      ·rw [if_pos c25] at H
       have c25b0:decide (x6_2 < (x5_1.size:Int))=true:=decide_eq_true c25;clear c25
       (first|rw [c25b0]|(simp only [i64_w,i32_w];rw [c25b0])|skip)
       by_cases c26:0 ≤ x6_2
       ·rw [if_pos c26] at H
        have c26b0:decide (0 ≤ x6_2)=true:=decide_eq_true c26;clear c26
        by_cases c28:(bt x5_1 x6_2)=58
        ·rw [if_pos c28] at H
         have c28b0:((bt x5_1 x6_2) == 58)=true:=beq_iff_eq.mpr c28;have c28b1:((bt x5_1 x6_2) != 58)=false:=bne_eq_false_iff_eq.mpr c28;clear c28;obtain ⟨ji29,hji29⟩:∃ j_:Int,(wrap64 (x6_2 + 1))=j_:=⟨_,rfl⟩;replace H:(if 0 ≤ (ji29) then (if (ji29) ≤ (x5_1.size:Int) then ((spec_ParseInt.f k2 (x5_1.extract ((ji29):Int).toNat x5_1.size)).bind fun bt280 => (if bt280.2=true then (if x6_2 ≤ (x5_1.size:Int) then (spec_ParseOrigin.j3 k2 a0 x280000_1 (x5_1.extract 0 (x6_2:Int).toNat) bt280.1) else (none)) else (some (false,(⟨#[]⟩:ByteArray),0,false)))) else (none)) else (none))=some (r1,r2,r3,r4):=by first|(rw [hji29] at H;exact H)|(simp only [hji29] at H ⊢;exact H)
         have hji29w:(IntKind.i64.wrap (x6_2 + 1))=ji29:=(i64_w _).trans hji29
         by_cases c30:0 ≤ (ji29)
         ·rw [if_pos c30] at H
          have c30b0:=eq_true c30;have c30b1:decide (0 ≤ (ji29))=true:=decide_eq_true c30;clear c30
          by_cases c31:(ji29) ≤ (x5_1.size:Int)
          ·rw [if_pos c31] at H
           have c31b0:=eq_true c31;have c31b1:decide ((ji29) ≤ (x5_1.size:Int))=true:=decide_eq_true c31;clear c31;replace H:=Option.bind_eq_some_iff.mp H;obtain ⟨⟨t280,t281⟩,A320,H⟩:=H
           try dsimp only at H
           have A32:=Am10_ A320;clear A320
           by_cases c33:t281=true
           ·subst c33
            rw [if_pos rfl] at H
            have c34b0:=eq_true (of_decide_eq_true (by first|(with_reducible assumption)|assumption):0 ≤ x6_2)
            by_cases c35:x6_2 ≤ (x5_1.size:Int)
            ·rw [if_pos c35] at H
             have c35b0:=eq_true c35;have c35b1:decide (x6_2 ≤ (x5_1.size:Int))=true:=decide_eq_true c35;clear c35;have H':=Am10_ H;clear H;have p27:0 ≤ (x6_2:Int):=of_decide_eq_true (by first|(with_reducible assumption)|assumption);have q27:x6_2 < (x5_1.size:Int):=of_decide_eq_true (by first|(with_reducible assumption)|assumption);have hx27:=bt_at x5_1 x6_2;replace p27:=eq_true p27;replace q27:=eq_true q27
             go_wp2_with (first|((with_reducible refine gate_callee (f:=62) rfl ?_);refine goesL_ (some 51) rfl rfl Tryz.func62 (by kernel_rfl) rfl #[.string (x5_1.extract ((ji29):Int).toNat x5_1.size)] rfl (by (try simp only [List.map_toArray,List.map_cons,List.map_nil]);first|done|(simp only [hji29];rfl)|rfl|(simp only [List.length_drop,List.length_take];rfl)) ?_;(with_reducible refine (spec_ParseInt.calls k2 (x5_1.extract ((ji29):Int).toNat x5_1.size) t280 true _ A32.out).mono ?_);rintro e w36 ⟨rfl,hb⟩;refine ⟨_,rfl,?_⟩;have n0_:=bb_ BK278 hb;have n1_:=bb_ BK279 hb;have n2_:=bs_ HB hb;clear BK278;clear BK279;clear HB;have BK278:=n0_;have BK279:=n1_;have HB:=n2_;clear n0_ n1_ n2_;(try clear hb);(try clear hb2);(try clear hk);(try clear hi);have hnb37:=NB279_278.out;have hnc37:=NB278_279.out;have hcz38_0:w36.cell? ⟨gb279,0,none⟩=some (.bool x280000_1):=q_ BK279 0 rfl;have hcz38_1:w36.cell? ⟨gb279,1,none⟩=some (.string x280001_2):=q_ BK279 1 rfl;have hcz38_2:w36.cell? ⟨gb279,2,none⟩=some (.int .i64 x280002_2):=q_ BK279 2 rfl;have hfz38_0:=blk_frozen BK279.out 0;have hfz38_1:=blk_frozen BK279.out 1;have hfz38_2:=blk_frozen BK279.out 2))
             go_meet
             case rel => exact ⟨_,(x279000_2),(x279001_2),(x279002_2),(x5_1.extract 0 (x6_2:Int).toNat),(t280),H',⟨by have:=HJ1.out;have:=HK2.out;first|omega|exact Nat.le_refl _⟩,⟨by (with_reducible repeat (first|refine blk_drewN ?_ _|refine blk_drew ?_|refine blk_alloc ?_ _));refine blk_far ?_ NB278_279.out _;(with_reducible repeat (first|refine blk_drewN ?_ _|refine blk_drew ?_|refine blk_alloc ?_ _));refine blk_far ?_ NB278_279.out _;(with_reducible repeat (first|refine blk_drewN ?_ _|refine blk_drew ?_|refine blk_alloc ?_ _));exact BK278.out⟩,⟨by (with_reducible repeat (first|refine blk_drewN ?_ _|refine blk_drew ?_|refine blk_alloc ?_ _));refine blk_put (cs:=#[.bool x280000_1,.string (x5_1.extract 0 (x6_2:Int).toNat),.int .i64 x280002_2]) ?_ 2 _ rfl;(with_reducible repeat (first|refine blk_drewN ?_ _|refine blk_drew ?_|refine blk_alloc ?_ _));refine blk_put (cs:=#[.bool x280000_1,.string x280001_2,.int .i64 x280002_2]) ?_ 1 _ rfl;(with_reducible repeat (first|refine blk_drewN ?_ _|refine blk_drew ?_|refine blk_alloc ?_ _));exact BK279.out⟩,⟨by repeat (first|(with_reducible first|exact HB.out|apply below_alloc|apply pw_below_drewN|apply below_drew1|refine below_set ?_ GE278.out|refine below_set ?_ GE279.out)|exact HB.out)⟩⟩
            ·rw [if_neg c35] at H
             exact absurd H (by simp)
           ·replace c33:=Bool.eq_false_iff.mpr c33;subst c33
            rw [if_neg (show ¬ (false=true) by decide)] at H
            simp only [Option.some.injEq,Prod.mk.injEq] at H
            obtain ⟨rfl,rfl,rfl,rfl⟩:=H;have p27:0 ≤ (x6_2:Int):=of_decide_eq_true (by first|(with_reducible assumption)|assumption);have q27:x6_2 < (x5_1.size:Int):=of_decide_eq_true (by first|(with_reducible assumption)|assumption);have hx27:=bt_at x5_1 x6_2;replace p27:=eq_true p27;replace q27:=eq_true q27
            go_wp2_with (first|((with_reducible refine gate_callee (f:=62) rfl ?_);refine goesL_ (some 51) rfl rfl Tryz.func62 (by kernel_rfl) rfl #[.string (x5_1.extract ((ji29):Int).toNat x5_1.size)] rfl (by (try simp only [List.map_toArray,List.map_cons,List.map_nil]);first|done|(simp only [hji29];rfl)|rfl|(simp only [List.length_drop,List.length_take];rfl)) ?_;(with_reducible refine (spec_ParseInt.calls k2 (x5_1.extract ((ji29):Int).toNat x5_1.size) t280 false _ A32.out).mono ?_);rintro e w39 ⟨rfl,hb⟩;refine ⟨_,rfl,?_⟩;have n0_:=bb_ BK278 hb;have n1_:=bb_ BK279 hb;have n2_:=bs_ HB hb;clear BK278;clear BK279;clear HB;have BK278:=n0_;have BK279:=n1_;have HB:=n2_;clear n0_ n1_ n2_;(try clear hb);(try clear hb2);(try clear hk);(try clear hi);have hnb40:=NB278_279.out;have hnc40:=NB279_278.out;have hcz41_0:w39.cell? ⟨gb278,0,none⟩=some (.bool x279000_2):=q_ BK278 0 rfl;have hcz41_1:w39.cell? ⟨gb278,1,none⟩=some (.string x279001_2):=q_ BK278 1 rfl;have hcz41_2:w39.cell? ⟨gb278,2,none⟩=some (.int .i64 x279002_2):=q_ BK278 2 rfl;have hfz41_0:=blk_frozen BK278.out 0;have hfz41_1:=blk_frozen BK278.out 1;have hfz41_2:=blk_frozen BK278.out 2))
            refine bodyPost_ret (results_ct rfl _ _ gb278 28 #[.bool false,.string (⟨#[]⟩:ByteArray),.int .i64 0] (0,0) _ rfl (by (with_reducible repeat (first|refine blk_drewN ?_ _|refine blk_drew ?_|refine blk_alloc ?_ _));refine blk_put (cs:=#[.bool false,.string (⟨#[]⟩:ByteArray),.int .i64 x279002_2]) ?_ 2 _ rfl;(with_reducible repeat (first|refine blk_drewN ?_ _|refine blk_drew ?_|refine blk_alloc ?_ _));refine blk_put (cs:=#[.bool false,.string x279001_2,.int .i64 x279002_2]) ?_ 1 _ rfl;(with_reducible repeat (first|refine blk_drewN ?_ _|refine blk_drew ?_|refine blk_alloc ?_ _));refine blk_put (cs:=#[.bool x279000_2,.string x279001_2,.int .i64 x279002_2]) ?_ 0 _ rfl;(with_reducible repeat (first|refine blk_drewN ?_ _|refine blk_drew ?_|refine blk_alloc ?_ _));exact BK278.out) Tryz.underlying28 rfl (by kernel_rfl)) rfl ?_;exact ⟨by first|rfl|(simp [errW_none,errW_some] <;> rfl)|(simp only [← hji29];first|rfl|(simp [errW_none,errW_some] <;> rfl))|(simp [*,errW_none,errW_some] <;> rfl),by repeat (first|(with_reducible first|exact HB.out|apply below_alloc|apply pw_below_drewN|apply below_drew1|refine below_set ?_ GE278.out|refine below_set ?_ GE279.out)|exact HB.out)⟩
          ·rw [if_neg c31] at H
           exact absurd H (by simp)
         ·rw [if_neg c30] at H
          exact absurd H (by simp)
        ·rw [if_neg c28] at H
         have c28b0:((bt x5_1 x6_2) == 58)=false:=beq_eq_false_iff_ne.mpr c28;have c28b1:((bt x5_1 x6_2) != 58)=true:=bne_iff_ne.mpr c28;have H':=Am10_ H;clear H;have p27:0 ≤ (x6_2:Int):=of_decide_eq_true (by first|(with_reducible assumption)|assumption);have q27:x6_2 < (x5_1.size:Int):=of_decide_eq_true (by first|(with_reducible assumption)|assumption);have hx27:=bt_at x5_1 x6_2;replace p27:=eq_true p27;replace q27:=eq_true q27
         go_wp2
         go_roundg k2
         case measure => have:=HJ1.out;have:=HK2.out;omega
         case rel => exact ⟨(wrap64 (x6_2 + 1)),(x279000_2),(x279001_2),(x279002_2),(x280001_2),(x280002_2),(by first|rfl|(simp;done)|(simp [*];done)),H',⟨by have:=HJ1.out;have:=HK2.out;omega⟩,⟨by (with_reducible repeat (first|refine blk_drewN ?_ _|refine blk_drew ?_|refine blk_alloc ?_ _));exact BK278.out⟩,⟨by (with_reducible repeat (first|refine blk_drewN ?_ _|refine blk_drew ?_|refine blk_alloc ?_ _));exact BK279.out⟩,⟨by repeat (first|(with_reducible first|exact HB.out|apply below_alloc|apply pw_below_drewN|apply below_drew1|refine below_set ?_ GE278.out|refine below_set ?_ GE279.out)|exact HB.out)⟩⟩
       ·rw [if_neg c26] at H
        exact absurd H (by simp)
      ·rw [if_neg c25] at H
       have c25b0:decide (x6_2 < (x5_1.size:Int))=false:=decide_eq_false c25;clear c25
       (first|rw [c25b0]|(simp only [i64_w,i32_w];rw [c25b0])|skip)
       have H':=Am10_ H;clear H
       go_wp2
       go_meet
       case rel => exact ⟨_,(x279000_2),(x279001_2),(x279002_2),(x280001_2),(x280002_2),H',⟨by have:=HJ1.out;have:=HK2.out;first|omega|exact Nat.le_refl _⟩,⟨by (with_reducible repeat (first|refine blk_drewN ?_ _|refine blk_drew ?_|refine blk_alloc ?_ _));exact BK278.out⟩,⟨by (with_reducible repeat (first|refine blk_drewN ?_ _|refine blk_drew ?_|refine blk_alloc ?_ _));exact BK279.out⟩,⟨by repeat (first|(with_reducible first|exact HB.out|apply below_alloc|apply pw_below_drewN|apply below_drew1|refine below_set ?_ GE278.out|refine below_set ?_ GE279.out)|exact HB.out)⟩⟩
   case rest =>
    clear HC22
    try clear c1
    try clear c2
    try clear p2
    try clear q2
    try clear hx2
    try clear c3
    try clear c4
    try clear c5
    try clear c6
    try clear p6
    try clear c8
    try clear c8b0
    try clear c8b1
    try clear c9
    try clear c9b0
    try clear c9b1
    try clear c10
    try clear c10b0
    try clear c10b1
    try clear c11
    try clear c12
    try clear c12b0
    try clear c12b1
    try clear c13
    try clear c15
    try clear c15b0
    try clear c15b1
    try clear c16
    try clear c16b0
    try clear c16b1
    try clear c17
    try clear c17b0
    try clear c17b1
    try clear c18
    try clear c18b0
    try clear c18b1
    try clear c19
    try clear c19b0
    try clear c20
    try clear c23
    try clear c25
    try clear c25b0
    try clear c26
    try clear c26b0
    try clear p27
    try clear q27
    try clear hx27
    try clear c28
    try clear c28b0
    try clear c28b1
    try clear c29
    try clear c30
    try clear c30b0
    try clear c30b1
    try clear c31
    try clear c31b0
    try clear c31b1
    try clear c33
    try clear c34
    try clear c34b0
    try clear c35
    try clear c35b0
    try clear c35b1
    try clear c37
    try clear c40
    try clear hcz14_0
    try clear hcz14_1
    try clear hcz14_2
    try clear hcz21_0
    try clear hcz21_1
    try clear hcz21_2
    try clear hcz24_0
    try clear hcz24_1
    try clear hcz24_2
    try clear hcz38_0
    try clear hcz38_1
    try clear hcz38_2
    try clear hcz41_0
    try clear hcz41_1
    try clear hcz41_2
    try clear hcz6_0
    try clear hcz6_1
    try clear hcz6_2
    try clear hfz14_0
    try clear hfz14_1
    try clear hfz14_2
    try clear hfz21_0
    try clear hfz21_1
    try clear hfz21_2
    try clear hfz24_0
    try clear hfz24_1
    try clear hfz24_2
    try clear hfz38_0
    try clear hfz38_1
    try clear hfz38_2
    try clear hfz41_0
    try clear hfz41_1
    try clear hfz41_2
    try clear hfz6_0
    try clear hfz6_1
    try clear hfz6_2
    try clear p2
    try clear p27
    try clear q27
    obtain ⟨kq,x279000_21,x279001_21,x279002_21,x280001_21,x280002_21,HA,HJ21,BK278,BK279,HB⟩:=hcut
    cases kq with
   |zero => exact absurd HA.out (by simp [spec_ParseOrigin.j3])
   |succ kj21 =>
     have H:=HA.out;clear HA;simp only [spec_ParseOrigin.j3] at H;replace H:=Option.bind_eq_some_iff.mp H;obtain ⟨t282,A420,H⟩:=H
     try dsimp only at H
     have A42:=Am10_ A420;clear A420
     by_cases c43:t282=true
     ·subst c43
      rw [if_pos rfl] at H
      replace H:=Option.bind_eq_some_iff.mp H;obtain ⟨t283,A440,H⟩:=H
      try dsimp only at H
      have A44:=Am10_ A440;clear A440
      by_cases c45:t283.toList=a0.toList
      ·rw [if_pos c45] at H
       have c45b0:(t283.toList == a0.toList)=true:=beq_iff_eq.mpr c45;have c45b1:(t283.toList != a0.toList)=false:=bne_eq_false_iff_eq.mpr c45;clear c45;simp only [Option.some.injEq,Prod.mk.injEq] at H;obtain ⟨rfl,rfl,rfl,rfl⟩:=H;have hnb46:=NB279_278.out;have hnc46:=NB278_279.out;have hcz47_0:wc.cell? ⟨gb279,0,none⟩=some (.bool x280000_1):=q_ BK279 0 rfl;have hcz47_1:wc.cell? ⟨gb279,1,none⟩=some (.string x280001_21):=q_ BK279 1 rfl;have hcz47_2:wc.cell? ⟨gb279,2,none⟩=some (.int .i64 x280002_21):=q_ BK279 2 rfl;have hfz47_0:=blk_frozen BK279.out 0;have hfz47_1:=blk_frozen BK279.out 1;have hfz47_2:=blk_frozen BK279.out 2
       go_wp2_with (first|((with_reducible refine gate_callee (f:=28) rfl ?_);refine goesL_ (some 64) rfl rfl Tryz.func28 (by kernel_rfl) rfl #[.agg #[.bool x280000_1,.string x280001_21,.int .i64 x280002_21]] rfl (by (try simp only [List.map_toArray,List.map_cons,List.map_nil]);first|done|rfl|(simp only [List.length_drop,List.length_take];rfl)) ?_;(with_reducible refine (spec_IsOrigin.calls kj21 x280000_1 x280001_21 x280002_21 true _ A42.out).mono ?_);rintro e w48 ⟨rfl,hb⟩;refine ⟨_,rfl,?_⟩;have n0_:=bb_ BK278 hb;have n1_:=bb_ BK279 hb;have n2_:=bs_ HB hb;clear BK278;clear BK279;clear HB;have BK278:=n0_;have BK279:=n1_;have HB:=n2_;clear n0_ n1_ n2_;(try clear hb);(try clear hb2);(try clear hk);(try clear hi);have hcz49_0:w48.cell? ⟨gb279,0,none⟩=some (.bool x280000_1):=q_ BK279 0 rfl;have hcz49_1:w48.cell? ⟨gb279,1,none⟩=some (.string x280001_21):=q_ BK279 1 rfl;have hcz49_2:w48.cell? ⟨gb279,2,none⟩=some (.int .i64 x280002_21):=q_ BK279 2 rfl;have hfz49_0:=blk_frozen BK279.out 0;have hfz49_1:=blk_frozen BK279.out 1;have hfz49_2:=blk_frozen BK279.out 2)|(go_at_call 61;(with_reducible refine (spec_FormatOrigin.calls kj21 x280000_1 x280001_21 x280002_21 t283 _ A44.out).mono ?_);rintro e w50 ⟨rfl,hb⟩;have n0_:=bb_ BK278 hb;have n1_:=bb_ BK279 hb;have n2_:=bs_ HB hb;clear BK278;clear BK279;clear HB;have BK278:=n0_;have BK279:=n1_;have HB:=n2_;clear n0_ n1_ n2_;(try clear hb);(try clear hb2);(try clear hk);(try clear hi);have hcz51_0:w50.cell? ⟨gb279,0,none⟩=some (.bool x280000_1):=q_ BK279 0 rfl;have hcz51_1:w50.cell? ⟨gb279,1,none⟩=some (.string x280001_21):=q_ BK279 1 rfl;have hcz51_2:w50.cell? ⟨gb279,2,none⟩=some (.int .i64 x280002_21):=q_ BK279 2 rfl;have hfz51_0:=blk_frozen BK279.out 0;have hfz51_1:=blk_frozen BK279.out 1;have hfz51_2:=blk_frozen BK279.out 2;have hcz52_0:w50.cell? ⟨gb278,0,none⟩=some (.bool x279000_21):=q_ BK278 0 rfl;have hcz52_1:w50.cell? ⟨gb278,1,none⟩=some (.string x279001_21):=q_ BK278 1 rfl;have hcz52_2:w50.cell? ⟨gb278,2,none⟩=some (.int .i64 x279002_21):=q_ BK278 2 rfl;have hfz52_0:=blk_frozen BK278.out 0;have hfz52_1:=blk_frozen BK278.out 1;have hfz52_2:=blk_frozen BK278.out 2))
       refine bodyPost_ret (results_ct rfl _ _ gb278 28 #[.bool x280000_1,.string x280001_21,.int .i64 x280002_21] (0,0) _ rfl (by (with_reducible repeat (first|refine blk_drewN ?_ _|refine blk_drew ?_|refine blk_alloc ?_ _));refine blk_put (cs:=#[.bool x280000_1,.string x280001_21,.int .i64 x279002_21]) ?_ 2 _ rfl;(with_reducible repeat (first|refine blk_drewN ?_ _|refine blk_drew ?_|refine blk_alloc ?_ _));refine blk_put (cs:=#[.bool x280000_1,.string x279001_21,.int .i64 x279002_21]) ?_ 1 _ rfl;(with_reducible repeat (first|refine blk_drewN ?_ _|refine blk_drew ?_|refine blk_alloc ?_ _));refine blk_put (cs:=#[.bool x279000_21,.string x279001_21,.int .i64 x279002_21]) ?_ 0 _ rfl;(with_reducible repeat (first|refine blk_drewN ?_ _|refine blk_drew ?_|refine blk_alloc ?_ _));exact BK278.out) Tryz.underlying28 rfl (by kernel_rfl)) rfl ?_;exact ⟨by first|rfl|(simp [errW_none,errW_some] <;> rfl)|(simp [*,errW_none,errW_some] <;> rfl),by repeat (first|(with_reducible first|exact HB.out|apply below_alloc|apply pw_below_drewN|apply below_drew1|refine below_set ?_ GE278.out|refine below_set ?_ GE279.out)|exact HB.out)⟩
      ·rw [if_neg c45] at H
       have c45b0:(t283.toList == a0.toList)=false:=beq_eq_false_iff_ne.mpr c45;have c45b1:(t283.toList != a0.toList)=true:=bne_iff_ne.mpr c45;simp only [Option.some.injEq,Prod.mk.injEq] at H;obtain ⟨rfl,rfl,rfl,rfl⟩:=H;have hnb53:=NB279_278.out;have hnc53:=NB278_279.out;have hcz54_0:wc.cell? ⟨gb279,0,none⟩=some (.bool x280000_1):=q_ BK279 0 rfl;have hcz54_1:wc.cell? ⟨gb279,1,none⟩=some (.string x280001_21):=q_ BK279 1 rfl;have hcz54_2:wc.cell? ⟨gb279,2,none⟩=some (.int .i64 x280002_21):=q_ BK279 2 rfl;have hfz54_0:=blk_frozen BK279.out 0;have hfz54_1:=blk_frozen BK279.out 1;have hfz54_2:=blk_frozen BK279.out 2
       go_wp2_with (first|((with_reducible refine gate_callee (f:=28) rfl ?_);refine goesL_ (some 64) rfl rfl Tryz.func28 (by kernel_rfl) rfl #[.agg #[.bool x280000_1,.string x280001_21,.int .i64 x280002_21]] rfl (by (try simp only [List.map_toArray,List.map_cons,List.map_nil]);first|done|rfl|(simp only [List.length_drop,List.length_take];rfl)) ?_;(with_reducible refine (spec_IsOrigin.calls kj21 x280000_1 x280001_21 x280002_21 true _ A42.out).mono ?_);rintro e w55 ⟨rfl,hb⟩;refine ⟨_,rfl,?_⟩;have n0_:=bb_ BK278 hb;have n1_:=bb_ BK279 hb;have n2_:=bs_ HB hb;clear BK278;clear BK279;clear HB;have BK278:=n0_;have BK279:=n1_;have HB:=n2_;clear n0_ n1_ n2_;(try clear hb);(try clear hb2);(try clear hk);(try clear hi);have hcz56_0:w55.cell? ⟨gb279,0,none⟩=some (.bool x280000_1):=q_ BK279 0 rfl;have hcz56_1:w55.cell? ⟨gb279,1,none⟩=some (.string x280001_21):=q_ BK279 1 rfl;have hcz56_2:w55.cell? ⟨gb279,2,none⟩=some (.int .i64 x280002_21):=q_ BK279 2 rfl;have hfz56_0:=blk_frozen BK279.out 0;have hfz56_1:=blk_frozen BK279.out 1;have hfz56_2:=blk_frozen BK279.out 2)|(go_at_call 61;(with_reducible refine (spec_FormatOrigin.calls kj21 x280000_1 x280001_21 x280002_21 t283 _ A44.out).mono ?_);rintro e w57 ⟨rfl,hb⟩;have n0_:=bb_ BK278 hb;have n1_:=bb_ BK279 hb;have n2_:=bs_ HB hb;clear BK278;clear BK279;clear HB;have BK278:=n0_;have BK279:=n1_;have HB:=n2_;clear n0_ n1_ n2_;(try clear hb);(try clear hb2);(try clear hk);(try clear hi);have hcz58_0:w57.cell? ⟨gb278,0,none⟩=some (.bool x279000_21):=q_ BK278 0 rfl;have hcz58_1:w57.cell? ⟨gb278,1,none⟩=some (.string x279001_21):=q_ BK278 1 rfl;have hcz58_2:w57.cell? ⟨gb278,2,none⟩=some (.int .i64 x279002_21):=q_ BK278 2 rfl;have hfz58_0:=blk_frozen BK278.out 0;have hfz58_1:=blk_frozen BK278.out 1;have hfz58_2:=blk_frozen BK278.out 2))
       refine bodyPost_ret (results_ct rfl _ _ gb278 28 #[.bool false,.string (⟨#[]⟩:ByteArray),.int .i64 0] (0,0) _ rfl (by (with_reducible repeat (first|refine blk_drewN ?_ _|refine blk_drew ?_|refine blk_alloc ?_ _));refine blk_put (cs:=#[.bool false,.string (⟨#[]⟩:ByteArray),.int .i64 x279002_21]) ?_ 2 _ rfl;(with_reducible repeat (first|refine blk_drewN ?_ _|refine blk_drew ?_|refine blk_alloc ?_ _));refine blk_put (cs:=#[.bool false,.string x279001_21,.int .i64 x279002_21]) ?_ 1 _ rfl;(with_reducible repeat (first|refine blk_drewN ?_ _|refine blk_drew ?_|refine blk_alloc ?_ _));refine blk_put (cs:=#[.bool x279000_21,.string x279001_21,.int .i64 x279002_21]) ?_ 0 _ rfl;(with_reducible repeat (first|refine blk_drewN ?_ _|refine blk_drew ?_|refine blk_alloc ?_ _));exact BK278.out) Tryz.underlying28 rfl (by kernel_rfl)) rfl ?_;exact ⟨by first|rfl|(simp [errW_none,errW_some] <;> rfl)|(simp [*,errW_none,errW_some] <;> rfl),by repeat (first|(with_reducible first|exact HB.out|apply below_alloc|apply pw_below_drewN|apply below_drew1|refine below_set ?_ GE278.out|refine below_set ?_ GE279.out)|exact HB.out)⟩
     ·replace c43:=Bool.eq_false_iff.mpr c43;subst c43
      rw [if_neg (show ¬ (false=true) by decide)] at H
      simp only [Option.some.injEq,Prod.mk.injEq] at H
      obtain ⟨rfl,rfl,rfl,rfl⟩:=H;have hnb59:=NB279_278.out;have hnc59:=NB278_279.out;have hcz60_0:wc.cell? ⟨gb279,0,none⟩=some (.bool x280000_1):=q_ BK279 0 rfl;have hcz60_1:wc.cell? ⟨gb279,1,none⟩=some (.string x280001_21):=q_ BK279 1 rfl;have hcz60_2:wc.cell? ⟨gb279,2,none⟩=some (.int .i64 x280002_21):=q_ BK279 2 rfl;have hfz60_0:=blk_frozen BK279.out 0;have hfz60_1:=blk_frozen BK279.out 1;have hfz60_2:=blk_frozen BK279.out 2
      go_wp2_with (first|((with_reducible refine gate_callee (f:=28) rfl ?_);refine goesL_ (some 64) rfl rfl Tryz.func28 (by kernel_rfl) rfl #[.agg #[.bool x280000_1,.string x280001_21,.int .i64 x280002_21]] rfl (by (try simp only [List.map_toArray,List.map_cons,List.map_nil]);first|done|rfl|(simp only [List.length_drop,List.length_take];rfl)) ?_;(with_reducible refine (spec_IsOrigin.calls kj21 x280000_1 x280001_21 x280002_21 false _ A42.out).mono ?_);rintro e w61 ⟨rfl,hb⟩;refine ⟨_,rfl,?_⟩;have n0_:=bb_ BK278 hb;have n1_:=bb_ BK279 hb;have n2_:=bs_ HB hb;clear BK278;clear BK279;clear HB;have BK278:=n0_;have BK279:=n1_;have HB:=n2_;clear n0_ n1_ n2_;(try clear hb);(try clear hb2);(try clear hk);(try clear hi);have hcz62_0:w61.cell? ⟨gb278,0,none⟩=some (.bool x279000_21):=q_ BK278 0 rfl;have hcz62_1:w61.cell? ⟨gb278,1,none⟩=some (.string x279001_21):=q_ BK278 1 rfl;have hcz62_2:w61.cell? ⟨gb278,2,none⟩=some (.int .i64 x279002_21):=q_ BK278 2 rfl;have hfz62_0:=blk_frozen BK278.out 0;have hfz62_1:=blk_frozen BK278.out 1;have hfz62_2:=blk_frozen BK278.out 2))
      refine bodyPost_ret (results_ct rfl _ _ gb278 28 #[.bool false,.string (⟨#[]⟩:ByteArray),.int .i64 0] (0,0) _ rfl (by (with_reducible repeat (first|refine blk_drewN ?_ _|refine blk_drew ?_|refine blk_alloc ?_ _));refine blk_put (cs:=#[.bool false,.string (⟨#[]⟩:ByteArray),.int .i64 x279002_21]) ?_ 2 _ rfl;(with_reducible repeat (first|refine blk_drewN ?_ _|refine blk_drew ?_|refine blk_alloc ?_ _));refine blk_put (cs:=#[.bool false,.string x279001_21,.int .i64 x279002_21]) ?_ 1 _ rfl;(with_reducible repeat (first|refine blk_drewN ?_ _|refine blk_drew ?_|refine blk_alloc ?_ _));refine blk_put (cs:=#[.bool x279000_21,.string x279001_21,.int .i64 x279002_21]) ?_ 0 _ rfl;(with_reducible repeat (first|refine blk_drewN ?_ _|refine blk_drew ?_|refine blk_alloc ?_ _));exact BK278.out) Tryz.underlying28 rfl (by kernel_rfl)) rfl ?_;exact ⟨by first|rfl|(simp [errW_none,errW_some] <;> rfl)|(simp [*,errW_none,errW_some] <;> rfl),by repeat (first|(with_reducible first|exact HB.out|apply below_alloc|apply pw_below_drewN|apply below_drew1|refine below_set ?_ GE278.out|refine below_set ?_ GE279.out)|exact HB.out)⟩

/-! ### spec_IsValidKey: function 48 -/
def spec_IsValidKey.f (a0:Int):Option (Bool):=(spec_l1In.f a0 1 2147483646).bind fun t284 => (some t284)
set_option maxHeartbeats 8000000 in
set_option maxRecDepth 100000 in
theorem spec_IsValidKey.calls (a0:Int) (r:Bool) (w:World) (h:spec_IsValidKey.f a0=some r) :
  Calls Tryz.prog 48 #[.int .i64 a0] w fun e w' => e=.returned (.bool r)∧Drawn0 w w':=by
 have H:((spec_l1In.f a0 1 2147483646).bind fun t284 => (some t284))=some r:=h;clear h;replace H:=Option.bind_eq_some_iff.mp H;obtain ⟨t284,A20,H⟩:=H
 try dsimp only at H
 have A2:=Am10_ A20;clear A20;obtain rfl:=Option.some.inj H
 go_enter Tryz.func48,Tryz.ntmps48
 go_wp2_with (first|((with_reducible refine gate_callee (f:=47) rfl ?_);refine goesL_ (some 4) rfl rfl Tryz.func47 (by kernel_rfl) rfl #[.int .i64 a0,.int .i64 1,.int .i64 2147483646] rfl (by (try simp only [List.map_toArray,List.map_cons,List.map_nil]);first|done|rfl|(simp only [List.length_drop,List.length_take];rfl)) ?_;(with_reducible refine (spec_l1In.calls a0 1 2147483646 t284 _ A2.out).mono ?_);rintro e w' ⟨rfl,⟨nd,rfl⟩⟩;refine ⟨_,rfl,?_⟩))
 go_ret
 exact ⟨by first|rfl|(simp;done)|(simp [*];done),by repeat (first|exact Drawn0.refl _|apply Drawn0.step)⟩

/-! ### spec_PublicKey: function 39 -/
def spec_PublicKey.f (a0:Int):Option (Int):=(spec_IsValidKey.f a0).bind fun t285 => (if t285=true then (some (Int.tmod (wrap64 (a0 * 48271)) 2147483647)) else (some 0))
set_option maxHeartbeats 8000000 in
set_option maxRecDepth 100000 in
theorem spec_PublicKey.calls (a0:Int) (r:Int) (w:World) (h:spec_PublicKey.f a0=some r) :
  Calls Tryz.prog 39 #[.int .i64 a0] w fun e w' => e=.returned (.int .i64 r)∧Drawn0 w w':=by
 have H:=h;unfold spec_PublicKey.f at H;clear h;replace H:=Option.bind_eq_some_iff.mp H;obtain ⟨t285,A20,H⟩:=H
 try dsimp only at H
 have A2:=Am10_ A20;clear A20
 by_cases c3:t285=true
 ·subst c3
  rw [if_pos rfl] at H
  obtain rfl:=Option.some.inj H
  go_enter Tryz.func39,Tryz.ntmps39
  go_wp2_with (first|((with_reducible refine gate_callee (f:=48) rfl ?_);refine goesL_ (some 4) rfl rfl Tryz.func48 (by kernel_rfl) rfl #[.int .i64 a0] rfl (by (try simp only [List.map_toArray,List.map_cons,List.map_nil]);first|done|rfl|(simp only [List.length_drop,List.length_take];rfl)) ?_;(with_reducible refine (spec_IsValidKey.calls a0 true _ A2.out).mono ?_);rintro e w' ⟨rfl,⟨nd,rfl⟩⟩;refine ⟨_,rfl,?_⟩))
  go_ret
  exact ⟨by first|rfl|(simp;done)|(simp [*];done),by repeat (first|exact Drawn0.refl _|apply Drawn0.step)⟩
 ·replace c3:=Bool.eq_false_iff.mpr c3;subst c3
  rw [if_neg (show ¬ (false=true) by decide)] at H
  obtain rfl:=Option.some.inj H
  go_enter Tryz.func39,Tryz.ntmps39
  go_wp2_with (first|((with_reducible refine gate_callee (f:=48) rfl ?_);refine goesL_ (some 4) rfl rfl Tryz.func48 (by kernel_rfl) rfl #[.int .i64 a0] rfl (by (try simp only [List.map_toArray,List.map_cons,List.map_nil]);first|done|rfl|(simp only [List.length_drop,List.length_take];rfl)) ?_;(with_reducible refine (spec_IsValidKey.calls a0 false _ A2.out).mono ?_);rintro e w' ⟨rfl,⟨nd,rfl⟩⟩;refine ⟨_,rfl,?_⟩))
  go_ret
  exact ⟨by first|rfl|(simp;done)|(simp [*];done),by repeat (first|exact Drawn0.refl _|apply Drawn0.step)⟩

/-! ### spec_l6Power: function 103 -/
def spec_l6Power.l0:Nat → Int → Int → Int → Option (Int)
|0,_,_,_ => none
|k + 1,x0,x1,x5 => if x1 > 0 then (if (Go.bits .and .i64 x1 1)=1 then (spec_l6Power.l0 k (Int.tmod (wrap64 (x0 * x0)) 2147483647) (x1 / 2) (Int.tmod (wrap64 (x5 * x0)) 2147483647)) else (spec_l6Power.l0 k (Int.tmod (wrap64 (x0 * x0)) 2147483647) (x1 / 2) x5)) else (some x5)
def spec_l6Power.f (k:Nat) (a0:Int) (a1:Int):Option (Int):=spec_l6Power.l0 k a0 a1 1
theorem spec_l6Power.mono_l:∀ k,(∀ y0 y1 y2,LeO (spec_l6Power.l0 k y0 y1 y2) (spec_l6Power.l0 (k + 1) y0 y1 y2))
|0 => fun _ _ _ r h => by simp [spec_l6Power.l0] at h
|k + 1 => by
  have ih0:=spec_l6Power.mono_l k
  ·intro y0 y1 y2
   unfold spec_l6Power.l0
   repeat' first
  |(with_reducible exact ih0 _ _ _)
  |(with_reducible exact LeO.refl _)
  |(with_reducible exact LeO.none _)
  |(with_reducible refine LeO.ite ?_ ?_)
  |(with_reducible refine LeO.bind ?_ (fun _ => ?_))
  |exact ih0 _ _ _
  |exact LeO.none _
  |refine LeO.ite ?_ ?_
  |refine LeO.bind ?_ (fun _ => ?_)
theorem spec_l6Power.mono:∀ a0 a1 k,LeO (spec_l6Power.f k a0 a1) (spec_l6Power.f (k + 1) a0 a1):=by
 intro a0 a1 k;have ih0:=spec_l6Power.mono_l k
 unfold spec_l6Power.f
 repeat' first
  |(with_reducible exact ih0 _ _ _)
  |(with_reducible exact LeO.refl _)
  |(with_reducible exact LeO.none _)
  |(with_reducible refine LeO.ite ?_ ?_)
  |(with_reducible refine LeO.bind ?_ (fun _ => ?_))
  |exact ih0 _ _ _
  |exact LeO.none _
  |refine LeO.ite ?_ ?_
  |refine LeO.bind ?_ (fun _ => ?_)
set_option maxHeartbeats 8000000 in
set_option maxRecDepth 100000 in
theorem spec_l6Power.calls (k:Nat) (a0:Int) (a1:Int) (r:Int) (w:World) (h:spec_l6Power.f k a0 a1=some r) :
  Calls Tryz.prog 103 #[.int .i64 a0,.int .i64 a1] w fun e w' => e=.returned (.int .i64 r)∧Drawn0 w w':=by
 have H:(spec_l6Power.l0 k a0 a1 1)=some r:=h;clear h;have H':=Am10_ H;clear H
 go_enter Tryz.func103,Tryz.ntmps103
 go_wp2
 go_loopg [0,1,5] k (fun kq v0 v1 v5 w' => ∃ (x0_1:Int) (x1_1:Int) (x5_1:Int),v0=.int .i64 x0_1∧v1=.int .i64 x1_1∧v5=.int .i64 x5_1∧Aside0 (spec_l6Power.l0 kq x0_1 x1_1 x5_1=some r)∧Aside0 (kq ≤ k)∧Drawn0 w w')
 case atStart => exact ⟨(a0),(a1),(1),(by first|rfl|(simp;done)|(simp [*];done)),(by first|rfl|(simp;done)|(simp [*];done)),(by first|rfl|(simp;done)|(simp [*];done)),H',⟨Nat.le_refl _⟩,by repeat (first|exact Drawn0.refl _|apply Drawn0.step)⟩
 case round =>
  clear H'
  try clear c1
  try clear p2
  obtain ⟨x0_1,x1_1,x5_1,rfl,rfl,rfl,HA,HK1,⟨m1,rfl⟩⟩:=hrel
  cases gk with
 |zero => exact absurd HA.out (by simp [spec_l6Power.l0])
 |succ k1 =>
   have H:=HA.out;clear HA;simp only [spec_l6Power.l0] at H
   by_cases c3:x1_1 > 0
   ·rw [if_pos c3] at H
    have c3b0:decide (0 < x1_1)=true:=decide_eq_true c3;clear c3
    by_cases c4:(Go.bits .and .i64 x1_1 1)=1
    ·rw [if_pos c4] at H
     have c4b0:((Go.bits .and .i64 x1_1 1) == 1)=true:=beq_iff_eq.mpr c4;have c4b1:((Go.bits .and .i64 x1_1 1) != 1)=false:=bne_eq_false_iff_eq.mpr c4;clear c4;have H':=Am10_ H;clear H
     go_wp2
     go_roundg k1
     case measure => have:=HK1.out;omega
     case rel => exact ⟨(Int.tmod (wrap64 (x0_1 * x0_1)) 2147483647),(x1_1 / 2),(Int.tmod (wrap64 (x5_1 * x0_1)) 2147483647),(by first|rfl|(simp;done)|(simp [*];done)),(by first|rfl|(simp;done)|(simp [*];done)),(by first|rfl|(simp;done)|(simp [*];done)),H',⟨by have:=HK1.out;omega⟩,by repeat (first|exact Drawn0.refl _|apply Drawn0.step)⟩
    ·rw [if_neg c4] at H
     have c4b0:((Go.bits .and .i64 x1_1 1) == 1)=false:=beq_eq_false_iff_ne.mpr c4;have c4b1:((Go.bits .and .i64 x1_1 1) != 1)=true:=bne_iff_ne.mpr c4;have H':=Am10_ H;clear H
     go_wp2
     go_roundg k1
     case measure => have:=HK1.out;omega
     case rel => exact ⟨(Int.tmod (wrap64 (x0_1 * x0_1)) 2147483647),(x1_1 / 2),(x5_1),(by first|rfl|(simp;done)|(simp [*];done)),(by first|rfl|(simp;done)|(simp [*];done)),(by first|rfl|(simp;done)|(simp [*];done)),H',⟨by have:=HK1.out;omega⟩,by repeat (first|exact Drawn0.refl _|apply Drawn0.step)⟩
   ·rw [if_neg c3] at H
    have c3b0:decide (0 < x1_1)=false:=decide_eq_false c3;clear c3;obtain rfl:=Option.some.inj H
    go_wp2
    go_ret
    exact ⟨by first|rfl|(simp;done)|(simp [*];done),by repeat (first|exact Drawn0.refl _|apply Drawn0.step)⟩

end Go.Proofs.YtogcoedmagoogaaGreatDoor.PFnExactCheckAssertion
