/- Functions and contracts of a law's callees, written by a program of this session (a changed print): each contract says that the machine's call answers what the plain function says. Conditions: the plain function's own answer. -/
import Derived.Test.YtogcoedmagoogaaDoorZPFnExactRelayAssertionx0
import Derived.Test.YtogcoedmagoogaaDoorZPFnExactRelayAssertionx9
import Derived.Test.YtogcoedmagoogaaDoorZPFnExactRelayAssertionx10
namespace Go.Proofs.YtogcoedmagoogaaDoor.PFnExactRelayAssertion
open Go.RowKit Go.Proofs.YtogcoedmagoogaaDoorW.PrintWords Go.Proofs.YtogcoedmagoogaaDoorW.PrintLast Go.Proofs.YtogcoedmagoogaaDoorW.PrintMore
attribute [local go_sem] max2_int min2_int max_two min_two max_three min_three max_four min_four   -- for this text's walks alone
set_option linter.unusedVariables false
set_option linter.unusedSimpArgs false
abbrev Am11_ {p : Prop} (h : p) : Aside0 p := Aside0.mk h

namespace Y11
class Ex_ (w W:World):Prop where
 k:∀ {g:Nat} {o:Obj},w.heap[g]?=some o → W.heap[g]?=some o
 e:∀ {v:World},Below v.heap.size v w → Below v.heap.size v W
instance (priority:=low) Ex_.rf (w:World):Ex_ w w:=⟨fun h => h,fun h => h⟩
instance Ex_.dn {w W:World} [x:Ex_ w W] (n:Nat):Ex_ w (W.drewN n):=⟨fun h => blk_drewN (x.k h) n,fun h => pw_below_drewN (x.e h) n⟩
instance Ex_.dr {w W:World} [x:Ex_ w W]:Ex_ w W.drew:=⟨fun h => blk_drew (x.k h),fun h => below_drew1 (x.e h)⟩
instance Ex_.al {w W:World} [x:Ex_ w W] (o:Obj):Ex_ w (W.alloc o):=⟨fun h => blk_alloc (x.k h) o,fun h => below_alloc (x.e h) o⟩
theorem xk_ {w W:World} {g:Nat} {o:Obj} (h:Aside0 (w.heap[g]?=some o)) [x:Ex_ w W]:W.heap[g]?=some o:=x.k h.out
theorem ne1_ {w W:World} {g g':Nat} {o:Obj} (hg:g'=W.heap.size) (h:Aside0 (w.heap[g]?=some o)) [x:Ex_ w W]:Aside0 (g ≠ g'):=Am11_ (by rw [hg];exact Nat.ne_of_lt (blk_lt (x.k h.out)))
theorem ne2_ {w W:World} {g g':Nat} {o:Obj} (hg:g'=W.heap.size) (h:Aside0 (w.heap[g]?=some o)) [x:Ex_ w W]:Aside0 (g' ≠ g):=Am11_ (by rw [hg];exact Nat.ne_of_gt (blk_lt (x.k h.out)))
theorem gw_ {v w W:World} {g':Nat} (hg:g'=W.heap.size) (h:Aside0 (Below v.heap.size v w)) [x:Ex_ w W]:Aside0 (v.heap.size ≤ g'):=Am11_ (by rw [hg];exact below_size (x.e h.out))
theorem bb_ {w W W':World} {g:Nat} {o:Obj} (h:Aside0 (w.heap[g]?=some o)) (hb:Below W.heap.size W W') [x:Ex_ w W]:Aside0 (W'.heap[g]?=some o):=Am11_ (blk_below (x.k h.out) hb)
theorem bs_ {v w W W':World} (h:Aside0 (Below v.heap.size v w)) (hb:Below W.heap.size W W') [x:Ex_ w W]:Aside0 (Below v.heap.size v W'):=Am11_ (below_step (x.e h.out) hb)
theorem xe_ {v w W:World} (h:Aside0 (Below v.heap.size v w)) [x:Ex_ w W]:Below v.heap.size v W:=x.e h.out
end Y11
open Y11

namespace Y11
abbrev Sa_ := @List.setIfInBounds_toArray
abbrev Sb_ := @List.set_cons_zero
abbrev Sc_ := @List.set_cons_succ
theorem q_ {w W : World} {g : Nat} {t : TypeId} {cs : Array Value} (h : Aside0 (w.heap[g]? = some (.cells cs t (0, 0)))) (i : Nat) {v : Option Value} (e : cs[i]? = v) [x : Ex_ w W] : W.cell? ⟨g, i, none⟩ = v := (blk_cell (x.k h.out) i).trans e
end Y11
open Y11
/-! ### impl_SignWithStore: function 29 -/
def impl_SignWithStore.j0:Nat → ByteArray → Int → List Int → Bool → Int → Int → Int → Int → Option (Int × Int × Int × Int × Int × Bool)
|0,_,_,_,_,_,_,_,_ => none
|k + 1,x1,x2,x3,x18,x343000,x343001,x343002,x343003 => if x18=true then (some (x343000,x343001,x343002,x343003,0,false)) else ((impl_SitePrivate.f k x343000 x343001 x343002 (wrap64 (x343003 + 1)) x1 x2).bind fun t345 => ((impl_joined.f k x3 (([(([wrap64 (x343003 + 1)]:List Int))]:List (List Int)))).bind fun t352 => ((impl_SignMessage.f k t345 t352).bind fun t355 => (some (x343000,x343001,x343002,wrap64 (x343003 + 1),t355,true)))))
def impl_SignWithStore.f (k:Nat) (a0_0:Int) (a0_1:Int) (a0_2:Int) (a0_3:Int) (a1:ByteArray) (a2:Int) (l3:List Int):Option (Int × Int × Int × Int × Int × Bool):=(impl_IsValidStore.f a0_0 a0_1 a0_2 a0_3).bind fun t344 => (if t344=true then (impl_SignWithStore.j0 k a1 a2 l3 (a0_3 == 1000000) a0_0 a0_1 a0_2 a0_3) else (impl_SignWithStore.j0 k a1 a2 l3 true a0_0 a0_1 a0_2 a0_3))
theorem impl_SignWithStore.mono_l:∀ k,(∀ y0 y1 y2 y3 y4 y5 y6 y7,LeO (impl_SignWithStore.j0 k y0 y1 y2 y3 y4 y5 y6 y7) (impl_SignWithStore.j0 (k + 1) y0 y1 y2 y3 y4 y5 y6 y7))
|0 => fun _ _ _ _ _ _ _ _ r h => by simp [impl_SignWithStore.j0] at h
|k + 1 => by
  have ih0:=impl_SignWithStore.mono_l k
  ·intro y0 y1 y2 y3 y4 y5 y6 y7
   unfold impl_SignWithStore.j0
   repeat' first
  |(with_reducible exact ih0 _ _ _ _ _ _ _ _)
  |(with_reducible exact impl_SignMessage.mono _ _ _)
  |(with_reducible exact impl_SitePrivate.mono _ _ _ _ _ _ _)
  |(with_reducible exact impl_joined.mono _ _ _)
  |(with_reducible exact LeO.refl _)
  |(with_reducible exact LeO.none _)
  |(with_reducible refine LeO.ite ?_ ?_)
  |(with_reducible refine LeO.bind ?_ (fun _ => ?_))
  |exact ih0 _ _ _ _ _ _ _ _
  |exact impl_SignMessage.mono _ _ _
  |exact impl_SitePrivate.mono _ _ _ _ _ _ _
  |exact impl_joined.mono _ _ _
  |exact LeO.none _
  |refine LeO.ite ?_ ?_
  |refine LeO.bind ?_ (fun _ => ?_)
theorem impl_SignWithStore.mono:∀ a0 a1 a2 a3 a4 a5 a6 k,LeO (impl_SignWithStore.f k a0 a1 a2 a3 a4 a5 a6) (impl_SignWithStore.f (k + 1) a0 a1 a2 a3 a4 a5 a6):=by
 intro a0 a1 a2 a3 a4 a5 a6 k;have ih0:=impl_SignWithStore.mono_l k
 unfold impl_SignWithStore.f
 repeat' first
  |(with_reducible exact ih0 _ _ _ _ _ _ _ _)
  |(with_reducible exact impl_SignMessage.mono _ _ _)
  |(with_reducible exact impl_SitePrivate.mono _ _ _ _ _ _ _)
  |(with_reducible exact impl_joined.mono _ _ _)
  |(with_reducible exact LeO.refl _)
  |(with_reducible exact LeO.none _)
  |(with_reducible refine LeO.ite ?_ ?_)
  |(with_reducible refine LeO.bind ?_ (fun _ => ?_))
  |exact ih0 _ _ _ _ _ _ _ _
  |exact impl_SignMessage.mono _ _ _
  |exact impl_SitePrivate.mono _ _ _ _ _ _ _
  |exact impl_joined.mono _ _ _
  |exact LeO.none _
  |refine LeO.ite ?_ ?_
  |refine LeO.bind ?_ (fun _ => ?_)
def impl_SignWithStore.T4:Bool × List (List Nat × List Nat):=(true,[([],[]),([],[]),([],[]),([],[]),([1,2,3],[1,2,3]),([],[]),([],[]),([6],[6]),([7],[7]),([8],[8]),([5,9,4],[5,9]),([4,10,10],[4,10]),([0,11,0],[0]),([11,12,0,1,2,3,4,5,6,7,8,9,10,11,12],[11]),([13,0,1,2,3,4,5,6,7,8,9,10,11,12,13],[])])
def impl_SignWithStore.B4:List Nat:=[0,0,0,0,14,0,0,64,192,448,1022,2046,4095,8191,16383]
theorem impl_SignWithStore.tab4:rtab .any (opsOf Tryd.f29 4)=impl_SignWithStore.T4:=by kernel_rfl
theorem impl_SignWithStore.bits4:waitsOk impl_SignWithStore.T4.2 impl_SignWithStore.B4=true:=by kernel_rfl
set_option maxHeartbeats 8000000 in
set_option maxRecDepth 100000 in
theorem impl_SignWithStore.calls (k:Nat) (a0_0:Int) (a0_1:Int) (a0_2:Int) (a0_3:Int) (a1:ByteArray) (a2:Int) (A3:Option Addr) (c3:Nat) (l3:List Int) (r1:Int) (r2:Int) (r3:Int) (r4:Int) (r5:Int) (r6:Bool) (w:World) (hr3:Kd.C (Kd.int .i64) w A3 l3.length l3) (hc3:l3.length ≤ c3) (h:impl_SignWithStore.f k a0_0 a0_1 a0_2 a0_3 a1 a2 l3=some (r1,r2,r3,r4,r5,r6)) :
  Calls Tryd.prog 29 #[.agg #[.int .i64 a0_0,.int .i64 a0_1,.int .i64 a0_2,.int .i64 a0_3],.string a1,.int .i64 a2,.slice A3 l3.length c3] w fun e w' => e=.returned (.tuple #[.agg #[.int .i64 r1,.int .i64 r2,.int .i64 r3,.int .i64 r4],.int .i64 r5,.bool r6])∧Below w.heap.size w w':=by
 have hu31:=Tryd.underlying31;have HR3:=Am11_ hr3;have HC3:=Am11_ hc3;clear hr3 hc3;have HB:=Am11_ (Below.refl w.heap.size w);have H:=h;unfold impl_SignWithStore.f at H;clear h;have HC5:=Am11_ H;clear H
 go_enter Tryd.func29,Tryd.ntmps29
 go_upto_region 1 with (first|((with_reducible refine gate_dst (N:=4) rfl ?_);refine box_event ?hg (N:=4) ?hd (cs:=#[.int .i64 a0_0,.int .i64 a0_1,.int .i64 a0_2,.int .i64 a0_3]) (t:=31) ?hr ?_;(case hd => rfl);(case hg => rfl);(case hr => first|(go_simp;done)|(go_simp;rfl));intro gb342 hg w6 hbox hb;have n0_:=bs_ HB hb;have n1_:=Am11_ (hbox);have n2_:=gw_ hg HB;have n3_:=gw_ hg HB;clear HB;have HB:=n0_;have BK342:=n1_;have GW342:=n2_;have GE342:=n3_;clear n0_ n1_ n2_ n3_;clear hb hbox hg)|((with_reducible refine gate_dst (N:=8) rfl ?_);refine box_event ?hg (N:=8) ?hd (cs:=#[.int .i64 0,.int .i64 0,.int .i64 0,.int .i64 0]) (t:=31) ?hr ?_;(case hd => rfl);(case hg => rfl);(case hr => first|(go_simp;done)|(go_simp;rfl));intro gb343 hg w7 hbox hb;have n0_:=bb_ BK342 hb;have n1_:=Am11_ (below_step (by repeat (first|(with_reducible first|exact HB.out|apply below_alloc|apply pw_below_drewN|apply below_drew1|refine below_set ?_ GE342.out)|exact HB.out)) hb);have n2_:=Am11_ (hbox);have n3_:=Am11_ ((by rw [hg];exact (below_size (by repeat (first|(with_reducible first|exact HB.out|apply below_alloc|apply pw_below_drewN|apply below_drew1|refine below_set ?_ GE342.out)|exact HB.out))):w.heap.size ≤ gb343));have n4_:=Am11_ ((by rw [hg];exact (below_size (by repeat (first|(with_reducible first|exact HB.out|apply below_alloc|apply pw_below_drewN|apply below_drew1|refine below_set ?_ GE342.out)|exact HB.out))):w.heap.size ≤ gb343));have n5_:=ne1_ hg BK342;have n6_:=ne2_ hg BK342;clear BK342;clear HB;have BK342:=n0_;have HB:=n1_;have BK343:=n2_;have GW343:=n3_;have GE343:=n4_;have NB342_343:=n5_;have NB343_342:=n6_;clear n0_ n1_ n2_ n3_ n4_ n5_ n6_;clear hb hbox hg))
 (try simp only [Act.put,Sa_,Sb_,Sc_])
 go_cut [18] (fun v18 wc => ∃ (kq:Nat) (x18_4:Bool),v18=.bool x18_4∧Aside0 (impl_SignWithStore.j0 kq a1 a2 l3 x18_4 a0_0 a0_1 a0_2 a0_3=some (r1,r2,r3,r4,r5,r6))∧Aside0 (kq ≤ k)∧Aside0 (wc.heap[gb342]?=some (.cells #[.int .i64 a0_0,.int .i64 a0_1,.int .i64 a0_2,.int .i64 a0_3] 31 (0,0)))∧Aside0 (wc.heap[gb343]?=some (.cells #[.int .i64 0,.int .i64 0,.int .i64 0,.int .i64 0] 31 (0,0)))∧Aside0 (Below w.heap.size w wc))
 case first =>
  have H:=HC5.out;clear HC5;replace H:=Option.bind_eq_some_iff.mp H;obtain ⟨t344,A80,H⟩:=H
  try dsimp only at H
  have A8:=Am11_ A80;clear A80
  by_cases c9:t344=true
  ·subst c9
   rw [if_pos rfl] at H
   have H':=Am11_ H;clear H;have hnb10:=NB342_343.out;have hnc10:=NB343_342.out;have hcz11_0:w7.cell? ⟨gb342,0,none⟩=some (.int .i64 a0_0):=q_ BK342 0 rfl;have hcz11_1:w7.cell? ⟨gb342,1,none⟩=some (.int .i64 a0_1):=q_ BK342 1 rfl;have hcz11_2:w7.cell? ⟨gb342,2,none⟩=some (.int .i64 a0_2):=q_ BK342 2 rfl;have hcz11_3:w7.cell? ⟨gb342,3,none⟩=some (.int .i64 a0_3):=q_ BK342 3 rfl;have hfz11_0:=blk_frozen BK342.out 0;have hfz11_1:=blk_frozen BK342.out 1;have hfz11_2:=blk_frozen BK342.out 2;have hfz11_3:=blk_frozen BK342.out 3
   go_wp2_with (first|((with_reducible refine gate_callee (f:=48) rfl ?_);refine goesL_ (some 12) rfl rfl Tryd.func48 (by kernel_rfl) rfl #[.agg #[.int .i64 a0_0,.int .i64 a0_1,.int .i64 a0_2,.int .i64 a0_3]] rfl (by (try simp only [List.map_toArray,List.map_cons,List.map_nil]);first|done|rfl|(simp only [List.length_drop,List.length_take];rfl)) ?_;(with_reducible refine (impl_IsValidStore.calls a0_0 a0_1 a0_2 a0_3 true _ A8.out).mono ?_);rintro e w12 ⟨rfl,hb⟩;refine ⟨_,rfl,?_⟩;have n0_:=Am11_ (blk_below (g:=gb342) (o:=.cells #[.int .i64 a0_0,.int .i64 a0_1,.int .i64 a0_2,.int .i64 a0_3] 31 (0,0)) (by (with_reducible repeat (first|refine blk_drewN ?_ _|refine blk_drew ?_|refine blk_alloc ?_ _));exact BK342.out) hb);have n1_:=Am11_ (blk_below (g:=gb343) (o:=.cells #[.int .i64 0,.int .i64 0,.int .i64 0,.int .i64 0] 31 (0,0)) (by (with_reducible repeat (first|refine blk_drewN ?_ _|refine blk_drew ?_|refine blk_alloc ?_ _));exact BK343.out) hb);have n2_:=Am11_ (below_step (by repeat (first|(with_reducible first|exact HB.out|apply below_alloc|apply pw_below_drewN|apply below_drew1|refine below_set ?_ GE342.out|refine below_set ?_ GE343.out)|exact HB.out)) hb);clear BK342;clear BK343;clear HB;have BK342:=n0_;have BK343:=n1_;have HB:=n2_;clear n0_ n1_ n2_;(try clear hb);(try clear hb2);(try clear hk);(try clear hi);have hcz13_0:w12.cell? ⟨gb342,0,none⟩=some (.int .i64 a0_0):=q_ BK342 0 rfl;have hcz13_1:w12.cell? ⟨gb342,1,none⟩=some (.int .i64 a0_1):=q_ BK342 1 rfl;have hcz13_2:w12.cell? ⟨gb342,2,none⟩=some (.int .i64 a0_2):=q_ BK342 2 rfl;have hcz13_3:w12.cell? ⟨gb342,3,none⟩=some (.int .i64 a0_3):=q_ BK342 3 rfl;have hfz13_0:=blk_frozen BK342.out 0;have hfz13_1:=blk_frozen BK342.out 1;have hfz13_2:=blk_frozen BK342.out 2;have hfz13_3:=blk_frozen BK342.out 3))
   go_meet
   case rel => exact ⟨_,((a0_3 == 1000000)),(by first|rfl|(simp;done)|(simp [*];done)),H',⟨by first|omega|exact Nat.le_refl _⟩,⟨by (with_reducible repeat (first|refine blk_drewN ?_ _|refine blk_drew ?_|refine blk_alloc ?_ _));exact BK342.out⟩,⟨by (with_reducible repeat (first|refine blk_drewN ?_ _|refine blk_drew ?_|refine blk_alloc ?_ _));exact BK343.out⟩,⟨by repeat (first|(with_reducible first|exact HB.out|apply below_alloc|apply pw_below_drewN|apply below_drew1|refine below_set ?_ GE342.out|refine below_set ?_ GE343.out)|exact HB.out)⟩⟩
  ·replace c9:=Bool.eq_false_iff.mpr c9;subst c9
   rw [if_neg (show ¬ (false=true) by decide)] at H
   have H':=Am11_ H;clear H;have hnb14:=NB342_343.out;have hnc14:=NB343_342.out;have hcz15_0:w7.cell? ⟨gb342,0,none⟩=some (.int .i64 a0_0):=q_ BK342 0 rfl;have hcz15_1:w7.cell? ⟨gb342,1,none⟩=some (.int .i64 a0_1):=q_ BK342 1 rfl;have hcz15_2:w7.cell? ⟨gb342,2,none⟩=some (.int .i64 a0_2):=q_ BK342 2 rfl;have hcz15_3:w7.cell? ⟨gb342,3,none⟩=some (.int .i64 a0_3):=q_ BK342 3 rfl;have hfz15_0:=blk_frozen BK342.out 0;have hfz15_1:=blk_frozen BK342.out 1;have hfz15_2:=blk_frozen BK342.out 2;have hfz15_3:=blk_frozen BK342.out 3
   go_wp2_with (first|((with_reducible refine gate_callee (f:=48) rfl ?_);refine goesL_ (some 12) rfl rfl Tryd.func48 (by kernel_rfl) rfl #[.agg #[.int .i64 a0_0,.int .i64 a0_1,.int .i64 a0_2,.int .i64 a0_3]] rfl (by (try simp only [List.map_toArray,List.map_cons,List.map_nil]);first|done|rfl|(simp only [List.length_drop,List.length_take];rfl)) ?_;(with_reducible refine (impl_IsValidStore.calls a0_0 a0_1 a0_2 a0_3 false _ A8.out).mono ?_);rintro e w16 ⟨rfl,hb⟩;refine ⟨_,rfl,?_⟩;have n0_:=Am11_ (blk_below (g:=gb342) (o:=.cells #[.int .i64 a0_0,.int .i64 a0_1,.int .i64 a0_2,.int .i64 a0_3] 31 (0,0)) (by (with_reducible repeat (first|refine blk_drewN ?_ _|refine blk_drew ?_|refine blk_alloc ?_ _));exact BK342.out) hb);have n1_:=Am11_ (blk_below (g:=gb343) (o:=.cells #[.int .i64 0,.int .i64 0,.int .i64 0,.int .i64 0] 31 (0,0)) (by (with_reducible repeat (first|refine blk_drewN ?_ _|refine blk_drew ?_|refine blk_alloc ?_ _));exact BK343.out) hb);have n2_:=Am11_ (below_step (by repeat (first|(with_reducible first|exact HB.out|apply below_alloc|apply pw_below_drewN|apply below_drew1|refine below_set ?_ GE342.out|refine below_set ?_ GE343.out)|exact HB.out)) hb);clear BK342;clear BK343;clear HB;have BK342:=n0_;have BK343:=n1_;have HB:=n2_;clear n0_ n1_ n2_;(try clear hb);(try clear hb2);(try clear hk);(try clear hi)))
   go_meet
   case rel => exact ⟨_,(true),(by first|rfl|(simp;done)|(simp [*];done)),H',⟨by first|omega|exact Nat.le_refl _⟩,⟨by (with_reducible repeat (first|refine blk_drewN ?_ _|refine blk_drew ?_|refine blk_alloc ?_ _));exact BK342.out⟩,⟨by (with_reducible repeat (first|refine blk_drewN ?_ _|refine blk_drew ?_|refine blk_alloc ?_ _));exact BK343.out⟩,⟨by repeat (first|(with_reducible first|exact HB.out|apply below_alloc|apply pw_below_drewN|apply below_drew1|refine below_set ?_ GE342.out|refine below_set ?_ GE343.out)|exact HB.out)⟩⟩
 case rest =>
  clear HC5
  try clear c1
  try clear c2
  try clear p2
  try clear c3
  try clear c4
  try clear c9
  try clear c10
  try clear c14
  try clear hcz11_0
  try clear hcz11_1
  try clear hcz11_2
  try clear hcz11_3
  try clear hcz13_0
  try clear hcz13_1
  try clear hcz13_2
  try clear hcz13_3
  try clear hcz15_0
  try clear hcz15_1
  try clear hcz15_2
  try clear hcz15_3
  try clear hfz11_0
  try clear hfz11_1
  try clear hfz11_2
  try clear hfz11_3
  try clear hfz13_0
  try clear hfz13_1
  try clear hfz13_2
  try clear hfz13_3
  try clear hfz15_0
  try clear hfz15_1
  try clear hfz15_2
  try clear hfz15_3
  obtain ⟨kq,x18_4,rfl,HA,HJ4,BK342,BK343,HB⟩:=hcut
  cases kq with
 |zero => exact absurd HA.out (by simp [impl_SignWithStore.j0])
 |succ kj4 =>
   have H:=HA.out;clear HA;simp only [impl_SignWithStore.j0] at H
   by_cases c17:x18_4=true
   ·subst c17
    rw [if_pos rfl] at H
    simp only [Option.some.injEq,Prod.mk.injEq] at H
    obtain ⟨rfl,rfl,rfl,rfl,rfl,rfl⟩:=H;have hnb18:=NB342_343.out;have hnc18:=NB343_342.out;have hcz19_0:wc.cell? ⟨gb342,0,none⟩=some (.int .i64 a0_0):=q_ BK342 0 rfl;have hcz19_1:wc.cell? ⟨gb342,1,none⟩=some (.int .i64 a0_1):=q_ BK342 1 rfl;have hcz19_2:wc.cell? ⟨gb342,2,none⟩=some (.int .i64 a0_2):=q_ BK342 2 rfl;have hcz19_3:wc.cell? ⟨gb342,3,none⟩=some (.int .i64 a0_3):=q_ BK342 3 rfl;have hfz19_0:=blk_frozen BK342.out 0;have hfz19_1:=blk_frozen BK342.out 1;have hfz19_2:=blk_frozen BK342.out 2;have hfz19_3:=blk_frozen BK342.out 3;have hcz20_0:wc.cell? ⟨gb343,0,none⟩=some (.int .i64 0):=q_ BK343 0 rfl;have hcz20_1:wc.cell? ⟨gb343,1,none⟩=some (.int .i64 0):=q_ BK343 1 rfl;have hcz20_2:wc.cell? ⟨gb343,2,none⟩=some (.int .i64 0):=q_ BK343 2 rfl;have hcz20_3:wc.cell? ⟨gb343,3,none⟩=some (.int .i64 0):=q_ BK343 3 rfl;have hfz20_0:=blk_frozen BK343.out 0;have hfz20_1:=blk_frozen BK343.out 1;have hfz20_2:=blk_frozen BK343.out 2;have hfz20_3:=blk_frozen BK343.out 3
    go_wp2
    refine bodyPost_ret (results_ctt rfl _ _ gb343 31 #[.int .i64 a0_0,.int .i64 a0_1,.int .i64 a0_2,.int .i64 a0_3] (0,0) _ rfl (by (with_reducible repeat (first|refine blk_drewN ?_ _|refine blk_drew ?_|refine blk_alloc ?_ _));refine blk_put (cs:=#[.int .i64 a0_0,.int .i64 a0_1,.int .i64 a0_2,.int .i64 0]) ?_ 3 _ rfl;(with_reducible repeat (first|refine blk_drewN ?_ _|refine blk_drew ?_|refine blk_alloc ?_ _));refine blk_put (cs:=#[.int .i64 a0_0,.int .i64 a0_1,.int .i64 0,.int .i64 0]) ?_ 2 _ rfl;(with_reducible repeat (first|refine blk_drewN ?_ _|refine blk_drew ?_|refine blk_alloc ?_ _));refine blk_put (cs:=#[.int .i64 a0_0,.int .i64 0,.int .i64 0,.int .i64 0]) ?_ 1 _ rfl;(with_reducible repeat (first|refine blk_drewN ?_ _|refine blk_drew ?_|refine blk_alloc ?_ _));refine blk_put (cs:=#[.int .i64 0,.int .i64 0,.int .i64 0,.int .i64 0]) ?_ 0 _ rfl;(with_reducible repeat (first|refine blk_drewN ?_ _|refine blk_drew ?_|refine blk_alloc ?_ _));exact BK343.out) Tryd.underlying31 rfl (by kernel_rfl)) rfl ?_;exact ⟨by first|rfl|(simp [errW_none,errW_some] <;> rfl)|(simp [*,errW_none,errW_some] <;> rfl),by repeat (first|(with_reducible first|exact HB.out|apply below_alloc|apply pw_below_drewN|apply below_drew1|refine below_set ?_ GE342.out|refine below_set ?_ GE343.out)|exact HB.out)⟩
   ·replace c17:=Bool.eq_false_iff.mpr c17;subst c17
    rw [if_neg (show ¬ (false=true) by decide)] at H
    replace H:=Option.bind_eq_some_iff.mp H;obtain ⟨t345,A210,H⟩:=H
    try dsimp only at H
    have A21:=Am11_ A210;clear A210;obtain ⟨y346,hy346⟩:∃ y_:List Int,y_=(([wrap64 (a0_3 + 1)]:List Int)):=⟨_,rfl⟩;replace H:((impl_joined.f kj4 l3 (([y346]:List (List Int)))).bind fun t352 => ((impl_SignMessage.f kj4 t345 t352).bind fun t355 => (some (a0_0,a0_1,a0_2,wrap64 (a0_3 + 1),t355,true))))=some (r1,r2,r3,r4,r5,r6):=by first|(rw [hy346];with_reducible exact H)|(have H2_:=(Option.bind_some _ _).symm.trans H;rw [hy346];with_reducible exact H2_)|(have H2_:=(Option.bind_some _ _).symm.trans H;with_reducible exact H2_)|with_reducible exact H|(rw [hy346];exact H)|exact H
    have Ny346:=Am11_ hy346;clear hy346;obtain ⟨y349,hy349⟩:∃ y_:List (List Int),y_=(([y346]:List (List Int))):=⟨_,rfl⟩;replace H:((impl_joined.f kj4 l3 y349).bind fun t352 => ((impl_SignMessage.f kj4 t345 t352).bind fun t355 => (some (a0_0,a0_1,a0_2,wrap64 (a0_3 + 1),t355,true))))=some (r1,r2,r3,r4,r5,r6):=by first|(rw [hy349];with_reducible exact H)|(have H2_:=(Option.bind_some _ _).symm.trans H;rw [hy349];with_reducible exact H2_)|(have H2_:=(Option.bind_some _ _).symm.trans H;with_reducible exact H2_)|with_reducible exact H|(rw [hy349];exact H)|exact H
    have Ny349:=Am11_ hy349;clear hy349;replace H:=Option.bind_eq_some_iff.mp H;obtain ⟨t352,A220,H⟩:=H
    try dsimp only at H
    have A22:=Am11_ A220;clear A220;replace H:=Option.bind_eq_some_iff.mp H;obtain ⟨t355,A230,H⟩:=H
    try dsimp only at H
    have A23:=Am11_ A230;clear A230;simp only [Option.some.injEq,Prod.mk.injEq] at H;obtain ⟨rfl,rfl,rfl,rfl,rfl,rfl⟩:=H;have hnb24:=NB342_343.out;have hnc24:=NB343_342.out;have hcz25_0:wc.cell? ⟨gb342,0,none⟩=some (.int .i64 a0_0):=q_ BK342 0 rfl;have hcz25_1:wc.cell? ⟨gb342,1,none⟩=some (.int .i64 a0_1):=q_ BK342 1 rfl;have hcz25_2:wc.cell? ⟨gb342,2,none⟩=some (.int .i64 a0_2):=q_ BK342 2 rfl;have hcz25_3:wc.cell? ⟨gb342,3,none⟩=some (.int .i64 a0_3):=q_ BK342 3 rfl;have hfz25_0:=blk_frozen BK342.out 0;have hfz25_1:=blk_frozen BK342.out 1;have hfz25_2:=blk_frozen BK342.out 2;have hfz25_3:=blk_frozen BK342.out 3
    try go_wp2
    have n0_:Aside0 ((wc.setCell ⟨gb342,3,none⟩ (.int .i64 (wrap64 (a0_3 + 1)))).heap[gb342]?=some (.cells #[.int .i64 a0_0,.int .i64 a0_1,.int .i64 a0_2,.int .i64 (wrap64 (a0_3 + 1))] 31 (0,0))):=⟨by (with_reducible repeat (first|refine blk_drewN ?_ _|refine blk_drew ?_|refine blk_alloc ?_ _));refine blk_put (cs:=#[.int .i64 a0_0,.int .i64 a0_1,.int .i64 a0_2,.int .i64 a0_3]) ?_ 3 _ rfl;(with_reducible repeat (first|refine blk_drewN ?_ _|refine blk_drew ?_|refine blk_alloc ?_ _));exact BK342.out⟩;have n1_:Aside0 ((wc.setCell ⟨gb342,3,none⟩ (.int .i64 (wrap64 (a0_3 + 1)))).heap[gb343]?=some (.cells #[.int .i64 0,.int .i64 0,.int .i64 0,.int .i64 0] 31 (0,0))):=⟨by (with_reducible repeat (first|refine blk_drewN ?_ _|refine blk_drew ?_|refine blk_alloc ?_ _));refine blk_far ?_ NB343_342.out _;(with_reducible repeat (first|refine blk_drewN ?_ _|refine blk_drew ?_|refine blk_alloc ?_ _));exact BK343.out⟩;have n2_:Aside0 (Below w.heap.size w (wc.setCell ⟨gb342,3,none⟩ (.int .i64 (wrap64 (a0_3 + 1))))):=⟨by repeat (first|(with_reducible first|exact HB.out|apply below_alloc|apply pw_below_drewN|apply below_drew1|refine below_set ?_ GE342.out|refine below_set ?_ GE343.out)|exact HB.out)⟩;(try clear BK342);(try clear BK343);(try clear HB);generalize (wc.setCell ⟨gb342,3,none⟩ (.int .i64 (wrap64 (a0_3 + 1))))=w26 at n0_ n1_ n2_ ⊢;have BK342:=n0_;have BK343:=n1_;have HB:=n2_;clear n0_ n1_ n2_;replace BK342:=Am11_ (blk_drew BK342.out);replace BK343:=Am11_ (blk_drew BK343.out);replace HB:=Am11_ (below_drew1 HB.out);refine start_ (n:=15) (S:=fun w' => True) (ds:=[]) #[false,false,false,false,false,false,false,false,false,false,false,false,false,false,false] (by kernel_rfl) rfl rfl trivial (fun hHeld => ?_);refine with_tabW impl_SignWithStore.tab4 impl_SignWithStore.bits4 (fun HT_ HW_ => ?_);generalize w26.drew=w27 at BK342 BK343 HB hHeld ⊢;refine pure_ (i:=2) (N:=some 26) (v:=?_) (a':=?_) #[false,false,true,false,false,false,false,false,false,false,false,false,false,false,false] rfl rfl (any_of HT_.out (by kernel_rfl)) (fun _ _ _ h => h) (Or.inl ⟨by rfl,?_⟩) ?_ ?_;rotate_left
    ·intro w'
     go_simp
     with_reducible rfl
    rotate_left
    ·simp only [Act.put,Sa_,Sb_,Sc_,i64_w,i32_w]
     rfl
    refine pure_ (i:=3) (N:=some 27) (v:=?_) (a':=?_) #[false,false,true,true,false,false,false,false,false,false,false,false,false,false,false] rfl rfl (any_of HT_.out (by kernel_rfl)) (fun _ _ _ h => h) (Or.inl ⟨by rfl,?_⟩) ?_ ?_;rotate_left
    ·intro w'
     go_simp
     with_reducible rfl
    rotate_left
    ·simp only [Act.put,Sa_,Sb_,Sc_,i64_w,i32_w]
     rfl
    refine pure_ (i:=5) (N:=some 29) (v:=?_) (a':=?_) #[false,false,true,true,false,true,false,false,false,false,false,false,false,false,false] rfl rfl (any_of HT_.out (by kernel_rfl)) (fun _ _ _ h => h) (Or.inl ⟨by rfl,?_⟩) ?_ ?_;rotate_left
    ·intro w'
     go_simp
     with_reducible rfl
    rotate_left
    ·simp only [Act.put,Sa_,Sb_,Sc_,i64_w,i32_w]
     rfl
    refine pure_ (i:=6) (N:=some 30) (v:=?_) (a':=?_) #[false,false,true,true,false,true,true,false,false,false,false,false,false,false,false] rfl rfl (any_of HT_.out (by kernel_rfl)) (fun _ _ _ h => h) (Or.inl ⟨by rfl,?_⟩) ?_ ?_;rotate_left
    ·intro w'
     go_simp
     with_reducible rfl
    rotate_left
    ·simp only [Act.put,Sa_,Sb_,Sc_,i64_w,i32_w]
     rfl
    refine inv_at [0,1,4,7,8,9,10,11,12,13,14] (fun a0_ b a w' => ∃ (v347:Value) (v350:Value) (v353:Value),a=putSel a0_ b [(0,24,.agg #[.int .i64 a0_0,.int .i64 a0_1,.int .i64 a0_2,.int .i64 (wrap64 (a0_3 + 1))]),(1,25,.agg #[.int .i64 a0_0,.int .i64 a0_1,.int .i64 a0_2,.int .i64 (wrap64 (a0_3 + 1))]),(4,28,.int .i64 t345),(7,31,.int .i64 (wrap64 (a0_3 + 1))),(8,32,v347),(9,33,v350),(10,34,v353),(11,35,.int .i64 t355),(13,9,.int .i64 t355),(14,10,.bool true)]∧(w'.heap[gb342]?=some (.cells #[.int .i64 a0_0,.int .i64 a0_1,.int .i64 a0_2,.int .i64 (wrap64 (a0_3 + 1))] 31 (0,0)))∧(b 12=false → w'.heap[gb343]?=some (.cells #[.int .i64 0,.int .i64 0,.int .i64 0,.int .i64 0] 31 (0,0)))∧(Below w.heap.size w w')∧(b 8=true → b 9=false → Kd.R (Kd.int .i64) 3 w' w.heap.size (fun _ => True) v347 y346)∧(b 9=true → Kd.N (Kd.slice 3 (Kd.int .i64)) 50 w' w.heap.size (fun k_ => k_ ≠ gb342∧k_ ≠ gb343) v350 y349)∧(b 10=true → Kd.R (Kd.int .i64) 3 w' w.heap.size (fun _ => True) v353 t352)∧(b 12=true → w'.heap[gb343]?=some (.cells #[.int .i64 a0_0,.int .i64 a0_1,.int .i64 a0_2,.int .i64 (wrap64 (a0_3 + 1))] 31 (0,0)))) HT_.out HW_.out (by kernel_rfl) (by kernel_rfl) ?_ ?_ ?_
    ·exact ⟨.bool false,.bool false,.bool false,by simp only [putSel,Bool.false_eq_true,if_false],BK342.out,fun _ => BK343.out,HB.out,fun h_ => absurd h_ (by decide),fun h_ => absurd h_ (by decide),fun h_ => absurd h_ (by decide),fun h_ => absurd h_ (by decide)⟩
    ·skip
     clear BK342 BK343 HB;refine steps_cons ?_ ?_
     ·rintro b a w' ⟨v347,v350,v353,ha,Q_BK342,Q_BK343,Q_HB,Q_HO348,Q_HO351,Q_HO354,Q_BK343_e12⟩ hb_ hon hoff;refine ⟨_,rfl,fun K hK => ?_⟩;have e4:a.tmps[4]?=some (.pointer (some ⟨gb342,0,none⟩)):=by rw [ha];exact (putSel_off rfl).trans rfl
      replace ha:=Am11_ ha;have BK342:=Am11_ Q_BK342;have BK343:=Am11_ (Q_BK343 (hoff 12 (by kernel_rfl)));have HB:=Am11_ Q_HB;have hc0_:w'.cell? ⟨gb342,0,none⟩=some (.int .i64 a0_0):=q_ BK342 0 rfl;have hc1_:w'.cell? ⟨gb342,1,none⟩=some (.int .i64 a0_1):=q_ BK342 1 rfl;have hc2_:w'.cell? ⟨gb342,2,none⟩=some (.int .i64 a0_2):=q_ BK342 2 rfl;have hc3_:w'.cell? ⟨gb342,3,none⟩=some (.int .i64 (wrap64 (a0_3 + 1))):=q_ BK342 3 rfl;refine value_ (w1:=w') (v:=.agg #[.int .i64 a0_0,.int .i64 a0_1,.int .i64 a0_2,.int .i64 (wrap64 (a0_3 + 1))]) (by rfl) rfl ?_ ?_
      ·go_simp
       (try simp only [i64_w])
       try rfl
      refine hK.out _ _ ⟨v347,v350,v353,(by rw [ha.out];exact putSel_upk 0 hb_ rfl rfl rfl),Q_BK342,Q_BK343,Q_HB,Q_HO348,Q_HO351,Q_HO354,fun h0_ => absurd ((hoff 12 (by kernel_rfl)).symm.trans h0_) (by decide)⟩
     refine steps_cons ?_ ?_
     ·rintro b a w' ⟨v347,v350,v353,ha,Q_BK342,Q_BK343,Q_HB,Q_HO348,Q_HO351,Q_HO354,Q_BK343_e12⟩ hb_ hon hoff;refine ⟨_,rfl,fun K hK => ?_⟩;have e4:a.tmps[4]?=some (.pointer (some ⟨gb342,0,none⟩)):=by rw [ha];exact (putSel_off rfl).trans rfl
      replace ha:=Am11_ ha;have BK342:=Am11_ Q_BK342;have BK343:=Am11_ (Q_BK343 (hoff 12 (by kernel_rfl)));have HB:=Am11_ Q_HB;have hc0_:w'.cell? ⟨gb342,0,none⟩=some (.int .i64 a0_0):=q_ BK342 0 rfl;have hc1_:w'.cell? ⟨gb342,1,none⟩=some (.int .i64 a0_1):=q_ BK342 1 rfl;have hc2_:w'.cell? ⟨gb342,2,none⟩=some (.int .i64 a0_2):=q_ BK342 2 rfl;have hc3_:w'.cell? ⟨gb342,3,none⟩=some (.int .i64 (wrap64 (a0_3 + 1))):=q_ BK342 3 rfl;refine value_ (w1:=w') (v:=.agg #[.int .i64 a0_0,.int .i64 a0_1,.int .i64 a0_2,.int .i64 (wrap64 (a0_3 + 1))]) (by rfl) rfl ?_ ?_
      ·go_simp
       (try simp only [i64_w])
       try rfl
      refine hK.out _ _ ⟨v347,v350,v353,(by rw [ha.out];exact putSel_upk 1 hb_ rfl rfl rfl),Q_BK342,Q_BK343,Q_HB,Q_HO348,Q_HO351,fun h0_ => absurd ((hoff 10 (by kernel_rfl)).symm.trans h0_) (by decide),fun h0_ => absurd ((hoff 12 (by kernel_rfl)).symm.trans h0_) (by decide)⟩
     refine steps_cons ?_ ?_
     ·rintro b a w' ⟨v347,v350,v353,ha,Q_BK342,Q_BK343,Q_HB,Q_HO348,Q_HO351,Q_HO354,Q_BK343_e12⟩ hb_ hon hoff;refine ⟨_,rfl,fun K hK => ?_⟩;have e25:a.tmps[25]?=some (.agg #[.int .i64 a0_0,.int .i64 a0_1,.int .i64 a0_2,.int .i64 (wrap64 (a0_3 + 1))]):=by rw [ha];exact putSel_on (e:=(1,25,.agg #[.int .i64 a0_0,.int .i64 a0_1,.int .i64 a0_2,.int .i64 (wrap64 (a0_3 + 1))])) 1 rfl rfl (hon 1 (by kernel_rfl)) rfl
      have e26:a.tmps[26]?=some (.string a1):=by rw [ha];exact (putSel_off rfl).trans rfl
      have e27:a.tmps[27]?=some (.int .i64 a2):=by rw [ha];exact (putSel_off rfl).trans rfl
      replace ha:=Am11_ ha;have BK342:=Am11_ Q_BK342;have BK343:=Am11_ (Q_BK343 (hoff 12 (by kernel_rfl)));have HB:=Am11_ Q_HB;refine goes_ Tryd.func50 (by kernel_rfl) rfl #[.agg #[.int .i64 a0_0,.int .i64 a0_1,.int .i64 a0_2,.int .i64 (wrap64 (a0_3 + 1))],.string a1,.int .i64 a2] (by rfl) rfl rfl (by simp only [List.map_toArray,List.map_cons,List.map_nil,Act.eval,Array.getD_eq_getD_getElem?,Option.getD_some,e25,e26,e27] <;> rfl) ?_;with_reducible refine (impl_SitePrivate.calls kj4 a0_0 a0_1 a0_2 (wrap64 (a0_3 + 1)) a1 a2 t345 _ A21.out).mono ?_;rintro e w28 ⟨rfl,hb⟩;refine ⟨_,rfl,?_⟩;have n0_:=bb_ BK342 hb;have n1_:=bb_ BK343 hb;have n2_:=Am11_ (below_step (by repeat (first|(with_reducible first|exact HB.out|apply below_alloc|apply pw_below_drewN|apply below_drew1|refine below_set ?_ GE342.out|refine below_set ?_ GE343.out)|exact HB.out)) hb);have z_HO348:=fun (h0_:b 8=true) (h1_:b 9=false) => (show Kd.R (Kd.int .i64) 3 w28 w.heap.size (fun _ => True) v347 y346 from by first|exact (Kd.R_below (by (with_reducible repeat (first|apply Kd.R_alloc|apply Kd.R_drewN|apply Kd.R_drew));exact (Q_HO348 h0_ h1_)) hb)|exact Kd.R_mono (Kd.R_below (by (with_reducible repeat (first|apply Kd.R_alloc|apply Kd.R_drewN|apply Kd.R_drew));exact (Q_HO348 h0_ h1_)) hb) (fun _ h_ => by first|trivial|exact h_|exact h_.1))
      have z_HO351:=fun (h0_:b 9=true) => (show Kd.N (Kd.slice 3 (Kd.int .i64)) 50 w28 w.heap.size (fun k_ => k_ ≠ gb342∧k_ ≠ gb343) v350 y349 from by first|exact (Kd.N_below (by (with_reducible repeat (first|apply Kd.N_alloc|apply Kd.N_drewN|apply Kd.N_drew));exact (Q_HO351 h0_)) hb)|exact Kd.N_mono (Kd.N_below (by (with_reducible repeat (first|apply Kd.N_alloc|apply Kd.N_drewN|apply Kd.N_drew));exact (Q_HO351 h0_)) hb) (fun _ h_ => by first|trivial|exact h_|exact h_.1))
      clear BK342;clear BK343;clear HB;have BK342:=n0_;have BK343:=n1_;have HB:=n2_;clear n0_ n1_ n2_;(try clear hb);(try clear hb2);(try clear hk);(try clear hi);refine hK.out _ _ ⟨v347,v350,v353,(by rw [ha.out];exact putSel_upk 2 hb_ rfl rfl rfl),(xk_ BK342),fun _ => (xk_ BK343),(by repeat (first|(with_reducible first|exact HB.out|apply below_alloc|apply pw_below_drewN|apply below_drew1|refine below_set ?_ GE342.out|refine below_set ?_ GE343.out)|exact HB.out)),z_HO348,z_HO351,fun h0_ => absurd ((hoff 10 (by kernel_rfl)).symm.trans h0_) (by decide),fun h0_ => absurd ((hoff 12 (by kernel_rfl)).symm.trans h0_) (by decide)⟩
     refine steps_cons ?_ ?_
     ·rintro b a w' ⟨v347,v350,v353,ha,Q_BK342,Q_BK343,Q_HB,Q_HO348,Q_HO351,Q_HO354,Q_BK343_e12⟩ hb_ hon hoff;refine ⟨_,rfl,fun K hK => ?_⟩;have e30:a.tmps[30]?=some (.pointer (some ⟨gb342,3,none⟩)):=by rw [ha];exact (putSel_off rfl).trans rfl
      replace ha:=Am11_ ha;have BK342:=Am11_ Q_BK342;have BK343:=Am11_ (Q_BK343 (hoff 12 (by kernel_rfl)));have HB:=Am11_ Q_HB;have hc0_:w'.cell? ⟨gb342,0,none⟩=some (.int .i64 a0_0):=q_ BK342 0 rfl;have hc1_:w'.cell? ⟨gb342,1,none⟩=some (.int .i64 a0_1):=q_ BK342 1 rfl;have hc2_:w'.cell? ⟨gb342,2,none⟩=some (.int .i64 a0_2):=q_ BK342 2 rfl;have hc3_:w'.cell? ⟨gb342,3,none⟩=some (.int .i64 (wrap64 (a0_3 + 1))):=q_ BK342 3 rfl;refine value_ (w1:=w') (v:=.int .i64 (wrap64 (a0_3 + 1))) (by rfl) rfl ?_ ?_
      ·go_simp
       (try simp only [i64_w])
       try rfl
      refine hK.out _ _ ⟨v347,v350,v353,(by rw [ha.out];exact putSel_upk 3 hb_ rfl rfl rfl),Q_BK342,Q_BK343,Q_HB,fun h0_ _ => absurd ((hoff 8 (by kernel_rfl)).symm.trans h0_) (by decide),fun h0_ => absurd ((hoff 9 (by kernel_rfl)).symm.trans h0_) (by decide),fun h0_ => absurd ((hoff 10 (by kernel_rfl)).symm.trans h0_) (by decide),fun h0_ => absurd ((hoff 12 (by kernel_rfl)).symm.trans h0_) (by decide)⟩
     refine steps_cons ?_ ?_
     ·rintro b a w' ⟨v347,v350,v353,ha,Q_BK342,Q_BK343,Q_HB,Q_HO348,Q_HO351,Q_HO354,Q_BK343_e12⟩ hb_ hon hoff;refine ⟨_,rfl,fun K hK => ?_⟩;have e31:a.tmps[31]?=some (.int .i64 (wrap64 (a0_3 + 1))):=by rw [ha];exact putSel_on (e:=(7,31,.int .i64 (wrap64 (a0_3 + 1)))) 3 rfl rfl (hon 7 (by kernel_rfl)) rfl
      replace ha:=Am11_ ha;have BK342:=Am11_ Q_BK342;have BK343:=Am11_ (Q_BK343 (hoff 12 (by kernel_rfl)));have HB:=Am11_ Q_HB;refine Kd.R_lit_step (Kd.int .i64) _ 3 ?hg (N:=32) ?hd (xs:=([wrap64 (a0_3 + 1)]:List Int)) (inner:=[.int .i64 (wrap64 (a0_3 + 1))]) (ok:=fun _ => True) (okp:=fun _ => True) ?hr ?hp (fun _ hk => by first|exact hk|(revert hk;dsimp only;grind)|grind) trivial (Below.refl _ _) (Nat.le_refl _) (by simp) ?_;(case hd => rfl);(case hg => rfl);(case hr => first|(go_simp;done)|(go_simp;rfl));(case hp => exact (Reps.one (show Kd.M (Kd.int .i64) _ _ _ (wrap64 (a0_3 + 1)) [.int .i64 (wrap64 (a0_3 + 1))] from rfl) (Reps.none _ _)));intro v347 w28 ho29 hb hg_ hnew_;clear hg_ hnew_
      (first|rw [← Ny346.out] at ho29|(simp only [Int.reduceToNat] at ho29;rw [← Ny346.out] at ho29))
      have HO348:=Am11_ (Kd.R_lower ho29 (below_size (by repeat (first|(with_reducible first|exact HB.out|apply below_alloc|apply pw_below_drewN|apply below_drew1|refine below_set ?_ GE342.out|refine below_set ?_ GE343.out)|exact HB.out))));replace BK342:=bb_ BK342 hb;replace BK343:=bb_ BK343 hb;replace HB:=Am11_ (below_step (by repeat (first|(with_reducible first|exact HB.out|apply below_alloc|apply pw_below_drewN|apply below_drew1|refine below_set ?_ GE342.out|refine below_set ?_ GE343.out)|exact HB.out)) hb);clear hb ho29;refine hK.out _ _ ⟨v347,v350,v353,(by rw [ha.out];exact putSel_upk 4 hb_ rfl rfl rfl),(xk_ BK342),fun _ => (xk_ BK343),(by repeat (first|(with_reducible first|exact HB.out|apply below_alloc|apply pw_below_drewN|apply below_drew1|refine below_set ?_ GE342.out|refine below_set ?_ GE343.out)|exact HB.out)),fun _ _ => (by (with_reducible repeat (first|apply Kd.R_alloc|apply Kd.R_drewN|apply Kd.R_drew));exact HO348.out),fun h0_ => absurd ((hoff 9 (by kernel_rfl)).symm.trans h0_) (by decide),fun h0_ => absurd ((hoff 10 (by kernel_rfl)).symm.trans h0_) (by decide),fun h0_ => absurd ((hoff 12 (by kernel_rfl)).symm.trans h0_) (by decide)⟩
     refine steps_cons ?_ ?_
     ·rintro b a w' ⟨v347,v350,v353,ha,Q_BK342,Q_BK343,Q_HB,Q_HO348,Q_HO351,Q_HO354,Q_BK343_e12⟩ hb_ hon hoff;refine ⟨_,rfl,fun K hK => ?_⟩;have e32:a.tmps[32]?=some (v347):=by rw [ha];exact putSel_on (e:=(8,32,v347)) 4 rfl rfl (hon 8 (by kernel_rfl)) rfl
      replace ha:=Am11_ ha;have BK342:=Am11_ Q_BK342;have BK343:=Am11_ (Q_BK343 (hoff 12 (by kernel_rfl)));have HB:=Am11_ Q_HB;have HO348:=Am11_ (Q_HO348 (hon 8 (by kernel_rfl)) hb_);obtain ⟨Ao31,co31,eo31⟩:=Kd.R_slice HO348.out
      (first|subst eo31|(injection eo31 with f1_ f2_ f3_;have f4_:=f1_.symm;have f5_:=f3_.symm;clear f1_ f2_ f3_;subst f4_;subst f5_))
      refine Kd.N_lit_step (Kd.slice 3 (Kd.int .i64)) _ 50 ?hg (N':=33) ?hd (xs:=([y346]:List (List Int))) (inner:=[.slice Ao31 y346.length co31]) (ok:=(fun k_ => k_ ≠ gb342∧k_ ≠ gb343)) (okp:=(fun k_ => k_ ≠ gb342∧k_ ≠ gb343)) ?hr ?hp (fun _ hk => by first|exact hk|(revert hk;dsimp only;grind)|grind) ((show ∀ k_,w'.heap.size ≤ k_ → (fun k_ => k_ ≠ gb342∧k_ ≠ gb343) k_ from fun k_ hk => ⟨Kd.freshB (xk_ BK342) k_ hk,Kd.freshB (xk_ BK343) k_ hk⟩) _ (Nat.le_refl _)) (Below.refl _ _) (Nat.le_refl _) (by simp) ?_;(case hd => rfl);(case hg => rfl);(case hr => first|(go_simp;done)|(go_simp;rfl));(case hp => exact (Reps.one (show Kd.FK (Kd.slice 3 (Kd.int .i64)) _ _ y346 [.slice Ao31 y346.length co31] from (Kd.FK_slice_mk (Kd.R_reads' (Kd.R_mono (ok':=(fun k_ => k_ ≠ gb342∧k_ ≠ gb343)) (Kd.R_types (Kd.R_types (HO348.out) BK342.out (by decide)) BK343.out (by decide)) (fun k_ hk => by first|exact ⟨hk.1.2,hk.2⟩|(revert hk;dsimp only;grind)|grind))).2.1 (Kd.R_F (Kd.R_mono (ok':=(fun k_ => k_ ≠ gb342∧k_ ≠ gb343)) (Kd.R_types (Kd.R_types (HO348.out) BK342.out (by decide)) BK343.out (by decide)) (fun k_ hk => by first|exact ⟨hk.1.2,hk.2⟩|(revert hk;dsimp only;grind)|grind))))) (Reps.none _ _)));intro v350 w32 ho33 hb hg_ hnew_;clear hg_ hnew_
      (first|rw [← Ny349.out] at ho33|(simp only [Int.reduceToNat] at ho33;rw [← Ny349.out] at ho33))
      have n0_:=Am11_ (Kd.N_lower ho33 (below_size (by repeat (first|(with_reducible first|exact HB.out|apply below_alloc|apply pw_below_drewN|apply below_drew1|refine below_set ?_ GE342.out|refine below_set ?_ GE343.out)|exact HB.out))));have n1_:=bb_ BK342 hb;have n2_:=bb_ BK343 hb;have n3_:=Am11_ (below_step (by repeat (first|(with_reducible first|exact HB.out|apply below_alloc|apply pw_below_drewN|apply below_drew1|refine below_set ?_ GE342.out|refine below_set ?_ GE343.out)|exact HB.out)) hb);clear BK342;clear BK343;clear HB;clear HO348;have HO351:=n0_;have BK342:=n1_;have BK343:=n2_;have HB:=n3_;clear n0_ n1_ n2_ n3_;clear hb ho33;refine hK.out _ _ ⟨.slice Ao31 y346.length co31,v350,v353,(by rw [ha.out];exact putSel_upk 5 hb_ rfl rfl rfl),(xk_ BK342),fun _ => (xk_ BK343),(by repeat (first|(with_reducible first|exact HB.out|apply below_alloc|apply pw_below_drewN|apply below_drew1|refine below_set ?_ GE342.out|refine below_set ?_ GE343.out)|exact HB.out)),fun _ h1_ => absurd ((up_self b 9).symm.trans h1_) (by decide),fun _ => (by (with_reducible repeat (first|apply Kd.N_alloc|apply Kd.N_drewN|apply Kd.N_drew));exact HO351.out),fun h0_ => absurd ((hoff 10 (by kernel_rfl)).symm.trans h0_) (by decide),fun h0_ => absurd ((hoff 12 (by kernel_rfl)).symm.trans h0_) (by decide)⟩
     refine steps_cons ?_ ?_
     ·rintro b a w' ⟨v347,v350,v353,ha,Q_BK342,Q_BK343,Q_HB,Q_HO348,Q_HO351,Q_HO354,Q_BK343_e12⟩ hb_ hon hoff;refine ⟨_,rfl,fun K hK => ?_⟩;have e29:a.tmps[29]?=some (.slice A3 l3.length c3):=by rw [ha];exact (putSel_off rfl).trans rfl
      have e33:a.tmps[33]?=some (v350):=by rw [ha];exact putSel_on (e:=(9,33,v350)) 5 rfl rfl (hon 9 (by kernel_rfl)) rfl
      replace ha:=Am11_ ha;have BK342:=Am11_ Q_BK342;have BK343:=Am11_ (Q_BK343 (hoff 12 (by kernel_rfl)));have HB:=Am11_ Q_HB;have HO351:=Am11_ (Q_HO351 (hon 9 (by kernel_rfl)));obtain ⟨Ao35,co35,eo35⟩:=Kd.N_slice HO351.out
      (first|subst eo35|(injection eo35 with f1_ f2_ f3_;have f4_:=f1_.symm;have f5_:=f3_.symm;clear f1_ f2_ f3_;subst f4_;subst f5_))
      refine goes_ Tryd.func51 (by kernel_rfl) rfl #[.slice A3 l3.length c3,.slice Ao35 y349.length co35] (by rfl) rfl rfl (by simp only [List.map_toArray,List.map_cons,List.map_nil,Act.eval,Array.getD_eq_getD_getElem?,Option.getD_some,e29,e33] <;> rfl) ?_;with_reducible refine (impl_joined.calls kj4 _ _ l3 _ _ y349 t352 _ ?side1 ?side2 ?side3 ?side4 A22.out).mono ?_
      (case side1 => repeat (first|exact (Kd.C_below HR3.out HB.out)|(with_reducible refine Kd.C_alloc ?_ _)|(with_reducible refine Kd.C_drewN ?_ _)|(with_reducible refine Kd.C_drew ?_)))
      (case side2 => exact HC3.out)
      (case side3 => repeat (first|exact (Kd.N_reads' HO351.out).2.2|(with_reducible refine Kd.C_alloc ?_ _)|(with_reducible refine Kd.C_drewN ?_ _)|(with_reducible refine Kd.C_drew ?_)))
      (case side4 => exact (Kd.N_reads' HO351.out).2.1)
      rintro e w36 ⟨v353,rfl,ho0,hb⟩;refine ⟨_,rfl,?_⟩;have HO354:=Am11_ (Kd.R_lower ho0 (below_size (by repeat (first|(with_reducible first|exact HB.out|apply below_alloc|apply pw_below_drewN|apply below_drew1|refine below_set ?_ GE342.out|refine below_set ?_ GE343.out)|exact HB.out))));replace HO351:=Am11_ (Kd.N_elder' (by (with_reducible repeat (first|apply Kd.N_alloc|apply Kd.N_drewN|apply Kd.N_drew));exact HO351.out) (Kd.R_base ho0) hb);replace BK342:=bb_ BK342 hb;replace BK343:=bb_ BK343 hb;replace HB:=Am11_ (below_step (by repeat (first|(with_reducible first|exact HB.out|apply below_alloc|apply pw_below_drewN|apply below_drew1|refine below_set ?_ GE342.out|refine below_set ?_ GE343.out)|exact HB.out)) hb);(try clear hb);(try clear hb2);(try clear hk);(try clear hi);(try clear ho0);refine hK.out _ _ ⟨v347,.slice Ao35 y349.length co35,v353,(by rw [ha.out];exact putSel_upk 6 hb_ rfl rfl rfl),(xk_ BK342),fun _ => (xk_ BK343),(by repeat (first|(with_reducible first|exact HB.out|apply below_alloc|apply pw_below_drewN|apply below_drew1|refine below_set ?_ GE342.out|refine below_set ?_ GE343.out)|exact HB.out)),fun _ h1_ => absurd ((hon 9 (by kernel_rfl)).symm.trans h1_) (by decide),fun _ => (by (with_reducible repeat (first|apply Kd.N_alloc|apply Kd.N_drewN|apply Kd.N_drew));exact Kd.N_mono HO351.out (fun _ hk => by first|exact ⟨hk.2,⟨hk.1.1,hk.1.2⟩⟩|(revert hk;dsimp only;grind)|grind)),fun _ => (by (with_reducible repeat (first|apply Kd.R_alloc|apply Kd.R_drewN|apply Kd.R_drew));exact HO354.out),fun h0_ => absurd ((hoff 12 (by kernel_rfl)).symm.trans h0_) (by decide)⟩
     refine steps_cons ?_ ?_
     ·rintro b a w' ⟨v347,v350,v353,ha,Q_BK342,Q_BK343,Q_HB,Q_HO348,Q_HO351,Q_HO354,Q_BK343_e12⟩ hb_ hon hoff;refine ⟨_,rfl,fun K hK => ?_⟩;have e28:a.tmps[28]?=some (.int .i64 t345):=by rw [ha];exact putSel_on (e:=(4,28,.int .i64 t345)) 2 rfl rfl (hon 4 (by kernel_rfl)) rfl
      have e34:a.tmps[34]?=some (v353):=by rw [ha];exact putSel_on (e:=(10,34,v353)) 6 rfl rfl (hon 10 (by kernel_rfl)) rfl
      replace ha:=Am11_ ha;have BK342:=Am11_ Q_BK342;have BK343:=Am11_ (Q_BK343 (hoff 12 (by kernel_rfl)));have HB:=Am11_ Q_HB;have HO351:=Am11_ (Q_HO351 (hon 9 (by kernel_rfl)));have HO354:=Am11_ (Q_HO354 (hon 10 (by kernel_rfl)));obtain ⟨Ao37,co37,eo37⟩:=Kd.R_slice HO354.out
      (first|subst eo37|(injection eo37 with f1_ f2_ f3_;have f4_:=f1_.symm;have f5_:=f3_.symm;clear f1_ f2_ f3_;subst f4_;subst f5_))
      refine goes_ Tryd.func49 (by kernel_rfl) rfl #[.int .i64 t345,.slice Ao37 t352.length co37] (by rfl) rfl rfl (by simp only [List.map_toArray,List.map_cons,List.map_nil,Act.eval,Array.getD_eq_getD_getElem?,Option.getD_some,e28,e34] <;> rfl) ?_;with_reducible refine (impl_SignMessage.calls kj4 t345 (fun k_ => some k_=(.slice Ao37 t352.length co37:Value).ownBlock) _ _ t352 t355 _ ?side1 A23.out).mono ?_
      (case side1 => exact Kd.R_V (Kd.R_tight rfl (Kd.R_types (Kd.R_types (Kd.R_apart' (HO354.out) (Kd.N_typed HO351.out) (by decide)) BK342.out (by decide)) BK343.out (by decide))))
      rintro e w38 ⟨rfl,hb⟩;refine ⟨_,rfl,?_⟩;replace HO351:=Am11_ (Kd.N_below (by (with_reducible repeat (first|apply Kd.N_alloc|apply Kd.N_drewN|apply Kd.N_drew));exact HO351.out) hb);replace HO354:=Am11_ (Kd.R_below (by (with_reducible repeat (first|apply Kd.R_alloc|apply Kd.R_drewN|apply Kd.R_drew));exact HO354.out) hb);replace BK342:=bb_ BK342 hb;replace BK343:=bb_ BK343 hb;replace HB:=Am11_ (below_step (by repeat (first|(with_reducible first|exact HB.out|apply below_alloc|apply pw_below_drewN|apply below_drew1|refine below_set ?_ GE342.out|refine below_set ?_ GE343.out)|exact HB.out)) hb);(try clear hb);(try clear hb2);(try clear hk);(try clear hi);refine hK.out _ _ ⟨v347,v350,.slice Ao37 t352.length co37,(by rw [ha.out];exact putSel_upk 7 hb_ rfl rfl rfl),(xk_ BK342),fun _ => (xk_ BK343),(by repeat (first|(with_reducible first|exact HB.out|apply below_alloc|apply pw_below_drewN|apply below_drew1|refine below_set ?_ GE342.out|refine below_set ?_ GE343.out)|exact HB.out)),fun _ h1_ => absurd ((hon 9 (by kernel_rfl)).symm.trans h1_) (by decide),fun _ => (by (with_reducible repeat (first|apply Kd.N_alloc|apply Kd.N_drewN|apply Kd.N_drew));exact HO351.out),fun _ => (by (with_reducible repeat (first|apply Kd.R_alloc|apply Kd.R_drewN|apply Kd.R_drew));exact HO354.out),fun h0_ => absurd ((hoff 12 (by kernel_rfl)).symm.trans h0_) (by decide)⟩
     refine steps_cons ?_ ?_
     ·rintro b a w' ⟨v347,v350,v353,ha,Q_BK342,Q_BK343,Q_HB,Q_HO348,Q_HO351,Q_HO354,Q_BK343_e12⟩ hb_ hon hoff;refine ⟨_,rfl,fun K hK => ?_⟩;have e8:a.tmps[8]?=some (.pointer (some ⟨gb343,0,none⟩)):=by rw [ha];exact (putSel_off rfl).trans rfl
      have e24:a.tmps[24]?=some (.agg #[.int .i64 a0_0,.int .i64 a0_1,.int .i64 a0_2,.int .i64 (wrap64 (a0_3 + 1))]):=by rw [ha];exact putSel_on (e:=(0,24,.agg #[.int .i64 a0_0,.int .i64 a0_1,.int .i64 a0_2,.int .i64 (wrap64 (a0_3 + 1))])) 0 rfl rfl (hon 0 (by kernel_rfl)) rfl
      replace ha:=Am11_ ha;have BK342:=Am11_ Q_BK342;have BK343:=Am11_ (Q_BK343 hb_);have HB:=Am11_ Q_HB;have HO351:=Am11_ (Q_HO351 (hon 9 (by kernel_rfl)));have HO354:=Am11_ (Q_HO354 (hon 10 (by kernel_rfl)));have hs39:w'.cell? ⟨gb343,0,none⟩=some (.int .i64 0):=q_ BK343 0 rfl;have hfs39:=blk_frozen BK343.out 0;have hns39_0:=NB342_343.out;have hms39_0:=NB343_342.out;have hs40:w'.cell? ⟨gb343,1,none⟩=some (.int .i64 0):=q_ BK343 1 rfl;have hfs40:=blk_frozen BK343.out 1;have hns40_0:=NB342_343.out;have hms40_0:=NB343_342.out;have hs41:w'.cell? ⟨gb343,2,none⟩=some (.int .i64 0):=q_ BK343 2 rfl;have hfs41:=blk_frozen BK343.out 2;have hns41_0:=NB342_343.out;have hms41_0:=NB343_342.out;have hs42:w'.cell? ⟨gb343,3,none⟩=some (.int .i64 0):=q_ BK343 3 rfl;have hfs42:=blk_frozen BK343.out 3;have hns42_0:=NB342_343.out;have hms42_0:=NB343_342.out;refine skip_ (w1:=?_) (by rfl) rfl ?_ ?_;rotate_left
      ·go_simp
       rfl
      refine hK.out _ _ ⟨v347,v350,v353,(by rw [ha.out];exact putSel_none (v:=undef) rfl),(by (repeat (first|(with_reducible first|refine blk_drewN ?_ _|refine blk_drew ?_|refine blk_alloc ?_ _)|refine blk_far ?_ NB342_343.out _));exact BK342.out),fun h0_ => absurd ((up_self b 12).symm.trans h0_) (by decide),(by repeat (first|(with_reducible first|exact HB.out|apply below_alloc|apply pw_below_drewN|apply below_drew1|refine below_set ?_ GE342.out|refine below_set ?_ GE343.out)|exact HB.out)),fun _ h1_ => absurd ((hon 9 (by kernel_rfl)).symm.trans h1_) (by decide),fun _ => (by (with_reducible repeat (first|apply Kd.N_alloc|apply Kd.N_drewN|apply Kd.N_drew));exact Kd.N_mono (Kd.N_far (p:=⟨gb343,3,none⟩) (Kd.N_far (p:=⟨gb343,2,none⟩) (Kd.N_far (p:=⟨gb343,1,none⟩) (Kd.N_far (p:=⟨gb343,0,none⟩) (Kd.N_mono HO351.out (fun k_ hk => (⟨by first|exact hk|exact hk|grind,by first|exact hk.2.2|(revert hk;dsimp only;grind)|grind⟩:_∧k_ ≠ gb343))) (fun _ hk => by first|exact hk.2|(revert hk;dsimp only;grind)|grind) (.int .i64 a0_0)) (fun _ hk => by first|exact hk.2|(revert hk;dsimp only;grind)|grind) (.int .i64 a0_1)) (fun _ hk => by first|exact hk.2|(revert hk;dsimp only;grind)|grind) (.int .i64 a0_2)) (fun _ hk => by first|exact hk.2|(revert hk;dsimp only;grind)|grind) (.int .i64 (wrap64 (a0_3 + 1)))) (fun _ hk => by first|exact ⟨hk.1.1,⟨hk.1.2.1,hk.1.2.2⟩⟩|(revert hk;dsimp only;grind)|grind)),fun _ => (by (with_reducible repeat (first|apply Kd.R_alloc|apply Kd.R_drewN|apply Kd.R_drew));exact Kd.R_mono (Kd.R_far (p:=⟨gb343,3,none⟩) (Kd.R_far (p:=⟨gb343,2,none⟩) (Kd.R_far (p:=⟨gb343,1,none⟩) (Kd.R_far (p:=⟨gb343,0,none⟩) (Kd.R_types HO354.out BK343.out (by decide)) (fun _ hk => by first|exact hk.2|(revert hk;dsimp only;grind)|grind) (.int .i64 a0_0)) (fun _ hk => by first|exact hk.2|(revert hk;dsimp only;grind)|grind) (.int .i64 a0_1)) (fun _ hk => by first|exact hk.2|(revert hk;dsimp only;grind)|grind) (.int .i64 a0_2)) (fun _ hk => by first|exact hk.2|(revert hk;dsimp only;grind)|grind) (.int .i64 (wrap64 (a0_3 + 1)))) (fun _ hk => trivial)),fun _ => (by (with_reducible repeat (first|refine blk_drewN ?_ _|refine blk_drew ?_|refine blk_alloc ?_ _));refine blk_put (cs:=#[.int .i64 a0_0,.int .i64 a0_1,.int .i64 a0_2,.int .i64 0]) ?_ 3 _ rfl;(with_reducible repeat (first|refine blk_drewN ?_ _|refine blk_drew ?_|refine blk_alloc ?_ _));refine blk_put (cs:=#[.int .i64 a0_0,.int .i64 a0_1,.int .i64 0,.int .i64 0]) ?_ 2 _ rfl;(with_reducible repeat (first|refine blk_drewN ?_ _|refine blk_drew ?_|refine blk_alloc ?_ _));refine blk_put (cs:=#[.int .i64 a0_0,.int .i64 0,.int .i64 0,.int .i64 0]) ?_ 1 _ rfl;(with_reducible repeat (first|refine blk_drewN ?_ _|refine blk_drew ?_|refine blk_alloc ?_ _));refine blk_put (cs:=#[.int .i64 0,.int .i64 0,.int .i64 0,.int .i64 0]) ?_ 0 _ rfl;(with_reducible repeat (first|refine blk_drewN ?_ _|refine blk_drew ?_|refine blk_alloc ?_ _));exact BK343.out)⟩
     refine steps_cons ?_ ?_
     ·rintro b a w' ⟨v347,v350,v353,ha,Q_BK342,Q_BK343,Q_HB,Q_HO348,Q_HO351,Q_HO354,Q_BK343_e12⟩ hb_ hon hoff;refine ⟨_,rfl,fun K hK => ?_⟩;have e35:a.tmps[35]?=some (.int .i64 t355):=by rw [ha];exact putSel_on (e:=(11,35,.int .i64 t355)) 7 rfl rfl (hon 11 (by kernel_rfl)) rfl
      replace ha:=Am11_ ha;have BK342:=Am11_ Q_BK342;have HB:=Am11_ Q_HB;have HO351:=Am11_ (Q_HO351 (hon 9 (by kernel_rfl)));have HO354:=Am11_ (Q_HO354 (hon 10 (by kernel_rfl)));have BK343:=Am11_ (Q_BK343_e12 (hon 12 (by kernel_rfl)));refine value_ (w1:=w') (v:=.int .i64 t355) (by rfl) rfl ?_ ?_
      ·go_simp
       (try simp only [i64_w])
       try rfl
      refine hK.out _ _ ⟨v347,v350,v353,(by rw [ha.out];exact putSel_upk 8 hb_ rfl rfl rfl),Q_BK342,fun h0_ => absurd ((hon 12 (by kernel_rfl)).symm.trans h0_) (by decide),Q_HB,fun _ h1_ => absurd ((hon 9 (by kernel_rfl)).symm.trans h1_) (by decide),Q_HO351,Q_HO354,Q_BK343_e12⟩
     refine steps_cons ?_ ?_
     ·rintro b a w' ⟨v347,v350,v353,ha,Q_BK342,Q_BK343,Q_HB,Q_HO348,Q_HO351,Q_HO354,Q_BK343_e12⟩ hb_ hon hoff;refine ⟨_,rfl,fun K hK => ?_⟩;replace ha:=Am11_ ha;have BK342:=Am11_ Q_BK342;have HB:=Am11_ Q_HB;have HO351:=Am11_ (Q_HO351 (hon 9 (by kernel_rfl)));have HO354:=Am11_ (Q_HO354 (hon 10 (by kernel_rfl)));have BK343:=Am11_ (Q_BK343_e12 (hon 12 (by kernel_rfl)));refine value_ (w1:=w') (v:=.bool true) (by rfl) rfl ?_ ?_
      ·go_simp
       (try simp only [i64_w])
       try rfl
      refine hK.out _ _ ⟨v347,v350,v353,(by rw [ha.out];exact putSel_upk 9 hb_ rfl rfl rfl),Q_BK342,fun h0_ => absurd ((hon 12 (by kernel_rfl)).symm.trans h0_) (by decide),Q_HB,fun _ h1_ => absurd ((hon 9 (by kernel_rfl)).symm.trans h1_) (by decide),Q_HO351,Q_HO354,Q_BK343_e12⟩
     exact steps_nil
    rintro b a w42 hall ⟨v347,v350,v353,ha,Q_BK342,Q_BK343,Q_HB,Q_HO348,Q_HO351,Q_HO354,Q_BK343_e12⟩;clear BK342 BK343 HB;have hb0_:=hall 0 (by kernel_rfl);have hb1_:=hall 1 (by kernel_rfl);have hb4_:=hall 4 (by kernel_rfl);have hb7_:=hall 7 (by kernel_rfl);have hb8_:=hall 8 (by kernel_rfl);have hb9_:=hall 9 (by kernel_rfl);have hb10_:=hall 10 (by kernel_rfl);have hb11_:=hall 11 (by kernel_rfl);have hb12_:=hall 12 (by kernel_rfl);have hb13_:=hall 13 (by kernel_rfl);have hb14_:=hall 14 (by kernel_rfl);subst ha;simp only [putSel,hb0_,hb1_,hb4_,hb7_,hb8_,hb9_,hb10_,hb11_,hb12_,hb13_,hb14_,if_true,Act.put,Sa_,Sb_,Sc_];have BK342:=Am11_ Q_BK342;clear Q_BK342;clear Q_BK343;have HB:=Am11_ Q_HB;clear Q_HB;clear Q_HO348;have HO351:=Am11_ (Q_HO351 hb9_);clear Q_HO351;have HO354:=Am11_ (Q_HO354 hb10_);clear Q_HO354;have BK343:=Am11_ (Q_BK343_e12 hb12_);clear Q_BK343_e12;clear hall hb0_ hb1_ hb4_ hb7_ hb8_ hb9_ hb10_ hb11_ hb12_ hb13_ hb14_
    try go_wp2
    refine bodyPost_ret (results_ctt rfl _ _ gb343 31 #[.int .i64 a0_0,.int .i64 a0_1,.int .i64 a0_2,.int .i64 (wrap64 (a0_3 + 1))] (0,0) _ rfl (xk_ BK343) Tryd.underlying31 rfl (by kernel_rfl)) rfl ?_;exact ⟨by first|rfl|(simp [errW_none,errW_some] <;> rfl)|(simp [*,errW_none,errW_some] <;> rfl),by repeat (first|(with_reducible first|exact HB.out|apply below_alloc|apply pw_below_drewN|apply below_drew1|refine below_set ?_ GE342.out|refine below_set ?_ GE343.out)|exact HB.out)⟩

/-! ### impl_bit: function 54 -/
def impl_bit.f (a0:Bool):Option (Int):=if a0=true then (some 1) else (some 0)
set_option maxHeartbeats 8000000 in
set_option maxRecDepth 100000 in
theorem impl_bit.calls (a0:Bool) (r:Int) (w:World) (h:impl_bit.f a0=some r) :
  Calls Tryd.prog 54 #[.bool a0] w fun e w' => e=.returned (.int .i64 r)∧Drawn0 w w':=by
 have H:(if a0=true then (some 1) else (some 0))=some r:=h;clear h
 by_cases c2:a0=true
 ·subst c2
  rw [if_pos rfl] at H
  obtain rfl:=Option.some.inj H
  go_enter Tryd.func54,Tryd.ntmps54
  go_wp2
  go_ret
  exact ⟨by first|rfl|(simp;done)|(simp [*];done),by repeat (first|exact Drawn0.refl _|apply Drawn0.step)⟩
 ·replace c2:=Bool.eq_false_iff.mpr c2;subst c2
  rw [if_neg (show ¬ (false=true) by decide)] at H
  obtain rfl:=Option.some.inj H
  go_enter Tryd.func54,Tryd.ntmps54
  go_wp2
  go_ret
  exact ⟨by first|rfl|(simp;done)|(simp [*];done),by repeat (first|exact Drawn0.refl _|apply Drawn0.step)⟩

/-! ### impl_AssertionMessage: function 30 -/
def impl_AssertionMessage.f (k:Nat) (a0_0:ByteArray) (a0_1:ByteArray) (a0_2:Int) (a0_3:Int) (a0_4:Bool) (a0_5:Int) (a0_6:Int):Option (List Int):=(impl_SiteHash.f k a0_0).bind fun t357 => ((impl_DeriveFromString.f k 211 a0_1).bind fun t358 => ((impl_bit.f a0_4).bind fun t359 => (some (([199,t357,t358,a0_2,a0_3,t359]:List Int)))))
theorem impl_AssertionMessage.mono:∀ a0 a1 a2 a3 a4 a5 a6 k,LeO (impl_AssertionMessage.f k a0 a1 a2 a3 a4 a5 a6) (impl_AssertionMessage.f (k + 1) a0 a1 a2 a3 a4 a5 a6):=by
 intro a0 a1 a2 a3 a4 a5 a6 k
 unfold impl_AssertionMessage.f
 repeat' first
  |(with_reducible exact impl_DeriveFromString.mono _ _ _)
  |(with_reducible exact impl_SiteHash.mono _ _)
  |(with_reducible exact LeO.refl _)
  |(with_reducible exact LeO.none _)
  |(with_reducible refine LeO.ite ?_ ?_)
  |(with_reducible refine LeO.bind ?_ (fun _ => ?_))
  |exact impl_DeriveFromString.mono _ _ _
  |exact impl_SiteHash.mono _ _
  |exact LeO.none _
  |refine LeO.ite ?_ ?_
  |refine LeO.bind ?_ (fun _ => ?_)
def impl_AssertionMessage.T1:Bool × List (List Nat × List Nat):=(true,[([],[]),([0],[0]),([1],[1]),([],[]),([3],[3]),([4,2],[4]),([],[]),([6],[6]),([],[]),([8],[8]),([],[]),([10],[10]),([11,5],[11]),([2,5,7,9,12],[2,5,7,9,12]),([13,12,0,1,2,3,4,5,6,7,8,9,10,11,12,13],[13])])
def impl_AssertionMessage.B1:List Nat:=[0,1,3,0,8,31,0,64,0,256,0,1024,3135,8191,16383]
theorem impl_AssertionMessage.tab1:rtab .any (opsOf Tryd.f30 1)=impl_AssertionMessage.T1:=by kernel_rfl
theorem impl_AssertionMessage.bits1:waitsOk impl_AssertionMessage.T1.2 impl_AssertionMessage.B1=true:=by kernel_rfl
set_option maxHeartbeats 8000000 in
set_option maxRecDepth 100000 in
theorem impl_AssertionMessage.calls (k:Nat) (a0_0:ByteArray) (a0_1:ByteArray) (a0_2:Int) (a0_3:Int) (a0_4:Bool) (a0_5:Int) (a0_6:Int) (r:List Int) (w:World) (h:impl_AssertionMessage.f k a0_0 a0_1 a0_2 a0_3 a0_4 a0_5 a0_6=some r) :
  Calls Tryd.prog 30 #[.agg #[.string a0_0,.string a0_1,.int .i64 a0_2,.int .i64 a0_3,.bool a0_4,.int .i64 a0_5,.int .i64 a0_6]] w fun e w' => ∃ v0_:Value,e=.returned (v0_)∧Kd.R (Kd.int .i64) 3 w' w.heap.size (fun _ => True) v0_ r∧Below w.heap.size w w':=by
 have hu33:=Tryd.underlying33;have HB:=Am11_ (Below.refl w.heap.size w);have H:=h;unfold impl_AssertionMessage.f at H;clear h;replace H:=Option.bind_eq_some_iff.mp H;obtain ⟨t357,A20,H⟩:=H
 try dsimp only at H
 have A2:=Am11_ A20;clear A20;replace H:=Option.bind_eq_some_iff.mp H;obtain ⟨t358,A30,H⟩:=H
 try dsimp only at H
 have A3:=Am11_ A30;clear A30;replace H:=Option.bind_eq_some_iff.mp H;obtain ⟨t359,A40,H⟩:=H
 try dsimp only at H
 have A4:=Am11_ A40;clear A40;obtain ⟨y360,hy360⟩:∃ y_:List Int,y_=(([199,t357,t358,a0_2,a0_3,t359]:List Int)):=⟨_,rfl⟩;replace H:(some y360)=some r:=by first|(rw [hy360];with_reducible exact H)|(have H2_:=(Option.bind_some _ _).symm.trans H;rw [hy360];with_reducible exact H2_)|(have H2_:=(Option.bind_some _ _).symm.trans H;with_reducible exact H2_)|with_reducible exact H|(rw [hy360];exact H)|exact H
 have Ny360:=Am11_ hy360;clear hy360;obtain rfl:=Option.some.inj H
 go_enter Tryd.func30,Tryd.ntmps30
 try go_wp2_with (first|((with_reducible refine gate_dst (N:=1) rfl ?_);refine box_event ?hg (N:=1) ?hd (cs:=#[.string a0_0,.string a0_1,.int .i64 a0_2,.int .i64 a0_3,.bool a0_4,.int .i64 a0_5,.int .i64 a0_6]) (t:=33) ?hr ?_;(case hd => rfl);(case hg => rfl);(case hr => first|(go_simp;done)|(go_simp;rfl));intro gb356 hg w5 hbox hb;have n0_:=Am11_ (below_step (by repeat (first|(with_reducible first|exact HB.out|apply below_alloc|apply pw_below_drewN|apply below_drew1)|exact HB.out)) hb);have n1_:=Am11_ (hbox);have n2_:=Am11_ ((by rw [hg];exact (below_size (by repeat (first|(with_reducible first|exact HB.out|apply below_alloc|apply pw_below_drewN|apply below_drew1)|exact HB.out))):w.heap.size ≤ gb356));have n3_:=Am11_ ((by rw [hg];exact (below_size (by repeat (first|(with_reducible first|exact HB.out|apply below_alloc|apply pw_below_drewN|apply below_drew1)|exact HB.out))):w.heap.size ≤ gb356));clear HB;have HB:=n0_;have BK356:=n1_;have GW356:=n2_;have GE356:=n3_;clear n0_ n1_ n2_ n3_;clear hb hbox hg))
 replace BK356:=Am11_ (blk_drew BK356.out);replace HB:=Am11_ (below_drew1 HB.out);refine start_ (n:=15) (S:=fun w' => w'.cell? ⟨gb356,0,none⟩=some (.string a0_0)∧w'.cell? ⟨gb356,1,none⟩=some (.string a0_1)∧w'.cell? ⟨gb356,2,none⟩=some (.int .i64 a0_2)∧w'.cell? ⟨gb356,3,none⟩=some (.int .i64 a0_3)∧w'.cell? ⟨gb356,4,none⟩=some (.bool a0_4)∧w'.cell? ⟨gb356,5,none⟩=some (.int .i64 a0_5)∧w'.cell? ⟨gb356,6,none⟩=some (.int .i64 a0_6)) (ds:=[]) #[false,false,false,false,false,false,false,false,false,false,false,false,false,false,false] (by kernel_rfl) rfl rfl ⟨q_ BK356 0 rfl,q_ BK356 1 rfl,q_ BK356 2 rfl,q_ BK356 3 rfl,q_ BK356 4 rfl,q_ BK356 5 rfl,q_ BK356 6 rfl⟩ (fun hHeld => ?_);refine with_tabW impl_AssertionMessage.tab1 impl_AssertionMessage.bits1 (fun HT_ HW_ => ?_);generalize w5.drew=w6 at BK356 HB hHeld ⊢;refine pure_ (i:=0) (N:=some 3) (v:=?_) (a':=?_) #[true,false,false,false,false,false,false,false,false,false,false,false,false,false,false] rfl rfl (any_of HT_.out (by kernel_rfl)) (fun _ _ _ h => h) (Or.inl ⟨by rfl,?_⟩) ?_ ?_;rotate_left
 ·intro w'
  go_simp
  with_reducible rfl
 rotate_left
 ·simp only [Act.put,Sa_,Sb_,Sc_,i64_w,i32_w]
  rfl
 refine pure_ (i:=3) (N:=some 6) (v:=?_) (a':=?_) #[true,false,false,true,false,false,false,false,false,false,false,false,false,false,false] rfl rfl (any_of HT_.out (by kernel_rfl)) (fun _ _ _ h => h) (Or.inl ⟨by rfl,?_⟩) ?_ ?_;rotate_left
 ·intro w'
  go_simp
  with_reducible rfl
 rotate_left
 ·simp only [Act.put,Sa_,Sb_,Sc_,i64_w,i32_w]
  rfl
 refine pure_ (i:=6) (N:=some 9) (v:=?_) (a':=?_) #[true,false,false,true,false,false,true,false,false,false,false,false,false,false,false] rfl rfl (any_of HT_.out (by kernel_rfl)) (fun _ _ _ h => h) (Or.inl ⟨by rfl,?_⟩) ?_ ?_;rotate_left
 ·intro w'
  go_simp
  with_reducible rfl
 rotate_left
 ·simp only [Act.put,Sa_,Sb_,Sc_,i64_w,i32_w]
  rfl
 refine pure_ (i:=8) (N:=some 11) (v:=?_) (a':=?_) #[true,false,false,true,false,false,true,false,true,false,false,false,false,false,false] rfl rfl (any_of HT_.out (by kernel_rfl)) (fun _ _ _ h => h) (Or.inl ⟨by rfl,?_⟩) ?_ ?_;rotate_left
 ·intro w'
  go_simp
  with_reducible rfl
 rotate_left
 ·simp only [Act.put,Sa_,Sb_,Sc_,i64_w,i32_w]
  rfl
 refine pure_ (i:=10) (N:=some 13) (v:=?_) (a':=?_) #[true,false,false,true,false,false,true,false,true,false,true,false,false,false,false] rfl rfl (any_of HT_.out (by kernel_rfl)) (fun _ _ _ h => h) (Or.inl ⟨by rfl,?_⟩) ?_ ?_;rotate_left
 ·intro w'
  go_simp
  with_reducible rfl
 rotate_left
 ·simp only [Act.put,Sa_,Sb_,Sc_,i64_w,i32_w]
  rfl
 refine take_ (i:=1) (N:=some 4) (v:=?_) (a':=?_) #[true,true,false,true,false,false,true,false,true,false,true,false,false,false,false] rfl rfl (take_ofW HT_.out HW_.out (by kernel_rfl)) (fun _ _ _ h => h) (Or.inl ⟨by rfl,?_⟩) hHeld ?_ ?_;rotate_left
 ·rintro w' ⟨s0,s1,s2,s3,s4,s5,s6⟩
  go_simp
  with_reducible rfl
 rotate_left
 ·simp only [Act.put,Sa_,Sb_,Sc_,i64_w,i32_w]
  rfl
 refine take_ (i:=4) (N:=some 7) (v:=?_) (a':=?_) #[true,true,false,true,true,false,true,false,true,false,true,false,false,false,false] rfl rfl (take_ofW HT_.out HW_.out (by kernel_rfl)) (fun _ _ _ h => h) (Or.inl ⟨by rfl,?_⟩) hHeld ?_ ?_;rotate_left
 ·rintro w' ⟨s0,s1,s2,s3,s4,s5,s6⟩
  go_simp
  with_reducible rfl
 rotate_left
 ·simp only [Act.put,Sa_,Sb_,Sc_,i64_w,i32_w]
  rfl
 refine take_ (i:=7) (N:=some 10) (v:=?_) (a':=?_) #[true,true,false,true,true,false,true,true,true,false,true,false,false,false,false] rfl rfl (take_ofW HT_.out HW_.out (by kernel_rfl)) (fun _ _ _ h => h) (Or.inl ⟨by rfl,?_⟩) hHeld ?_ ?_;rotate_left
 ·rintro w' ⟨s0,s1,s2,s3,s4,s5,s6⟩
  go_simp
  with_reducible rfl
 rotate_left
 ·simp only [Act.put,Sa_,Sb_,Sc_,i64_w,i32_w]
  rfl
 refine take_ (i:=9) (N:=some 12) (v:=?_) (a':=?_) #[true,true,false,true,true,false,true,true,true,true,true,false,false,false,false] rfl rfl (take_ofW HT_.out HW_.out (by kernel_rfl)) (fun _ _ _ h => h) (Or.inl ⟨by rfl,?_⟩) hHeld ?_ ?_;rotate_left
 ·rintro w' ⟨s0,s1,s2,s3,s4,s5,s6⟩
  go_simp
  with_reducible rfl
 rotate_left
 ·simp only [Act.put,Sa_,Sb_,Sc_,i64_w,i32_w]
  rfl
 refine take_ (i:=11) (N:=some 14) (v:=?_) (a':=?_) #[true,true,false,true,true,false,true,true,true,true,true,true,false,false,false] rfl rfl (take_ofW HT_.out HW_.out (by kernel_rfl)) (fun _ _ _ h => h) (Or.inl ⟨by rfl,?_⟩) hHeld ?_ ?_;rotate_left
 ·rintro w' ⟨s0,s1,s2,s3,s4,s5,s6⟩
  go_simp
  with_reducible rfl
 rotate_left
 ·simp only [Act.put,Sa_,Sb_,Sc_,i64_w,i32_w]
  rfl
 refine one_ (i:=2) (N:=some 5) #[true,true,true,true,true,false,true,true,true,true,true,true,false,false,false] rfl rfl (one_of HT_.out (by kernel_rfl)) (by decide) (fun K hK => ?_);refine goes_ Tryd.func52 (by kernel_rfl) rfl #[.string a0_0] (by rfl) rfl rfl (by (try simp only [List.map_toArray,List.map_cons,List.map_nil]);first|done|rfl|(simp only [List.length_drop,List.length_take];rfl)) ?_;with_reducible refine (impl_SiteHash.calls k a0_0 t357 _ A2.out).mono ?_;rintro e w7 ⟨rfl,hb⟩;refine ⟨_,rfl,?_⟩;replace BK356:=bb_ BK356 hb;replace HB:=Am11_ (below_step (by repeat (first|(with_reducible first|exact HB.out|apply below_alloc|apply pw_below_drewN|apply below_drew1|refine below_set ?_ GE356.out)|exact HB.out)) hb);(try clear hb);(try clear hb2);(try clear hk);(try clear hi);refine hK.out _ _ ⟨q_ BK356 0 rfl,q_ BK356 1 rfl,q_ BK356 2 rfl,q_ BK356 3 rfl,q_ BK356 4 rfl,q_ BK356 5 rfl,q_ BK356 6 rfl⟩ (fun hHeld => ?_);clear hK K;refine norm_ (a':=?_) ?_ ?_;rotate_left
 ·show Act.put _ (some 5) _=_
  simp only [Act.put,Sa_,Sb_,Sc_,i64_w,i32_w]
  rfl
 refine one_ (i:=5) (N:=some 8) #[true,true,true,true,true,true,true,true,true,true,true,true,false,false,false] rfl rfl (one_of HT_.out (by kernel_rfl)) (by decide) (fun K hK => ?_);refine goes_ Tryd.func53 (by kernel_rfl) rfl #[.int .i64 211,.string a0_1] (by rfl) rfl rfl (by (try simp only [List.map_toArray,List.map_cons,List.map_nil]);first|done|rfl|(simp only [List.length_drop,List.length_take];rfl)) ?_;with_reducible refine (impl_DeriveFromString.calls k 211 a0_1 t358 _ A3.out).mono ?_;rintro e w8 ⟨rfl,hb⟩;refine ⟨_,rfl,?_⟩;replace BK356:=bb_ BK356 hb;replace HB:=Am11_ (below_step (by repeat (first|(with_reducible first|exact HB.out|apply below_alloc|apply pw_below_drewN|apply below_drew1|refine below_set ?_ GE356.out)|exact HB.out)) hb);(try clear hb);(try clear hb2);(try clear hk);(try clear hi);refine hK.out _ _ ⟨q_ BK356 0 rfl,q_ BK356 1 rfl,q_ BK356 2 rfl,q_ BK356 3 rfl,q_ BK356 4 rfl,q_ BK356 5 rfl,q_ BK356 6 rfl⟩ (fun hHeld => ?_);clear hK K;refine norm_ (a':=?_) ?_ ?_;rotate_left
 ·show Act.put _ (some 8) _=_
  simp only [Act.put,Sa_,Sb_,Sc_,i64_w,i32_w]
  rfl
 refine one_ (i:=12) (N:=some 15) #[true,true,true,true,true,true,true,true,true,true,true,true,true,false,false] rfl rfl (one_of HT_.out (by kernel_rfl)) (by decide) (fun K hK => ?_);refine goes_ Tryd.func54 (by kernel_rfl) rfl #[.bool a0_4] (by rfl) rfl rfl (by (try simp only [List.map_toArray,List.map_cons,List.map_nil]);first|done|rfl|(simp only [List.length_drop,List.length_take];rfl)) ?_;with_reducible refine (impl_bit.calls a0_4 t359 _ A4.out).mono ?_;rintro e w' ⟨rfl,⟨nd,rfl⟩⟩;refine ⟨_,rfl,?_⟩;refine hK.out _ _ ⟨q_ BK356 0 rfl,q_ BK356 1 rfl,q_ BK356 2 rfl,q_ BK356 3 rfl,q_ BK356 4 rfl,q_ BK356 5 rfl,q_ BK356 6 rfl⟩ (fun hHeld => ?_);clear hK K;refine norm_ (a':=?_) ?_ ?_;rotate_left
 ·show Act.put _ (some 15) _=_
  simp only [Act.put,Sa_,Sb_,Sc_,i64_w,i32_w]
  rfl
 refine one_ (i:=13) (N:=some 16) #[true,true,true,true,true,true,true,true,true,true,true,true,true,true,false] rfl rfl (one_of HT_.out (by kernel_rfl)) (by decide) (fun K hK => ?_);refine Kd.R_lit_step (Kd.int .i64) _ 3 ?hg (N:=16) ?hd (xs:=([199,t357,t358,a0_2,a0_3,t359]:List Int)) (inner:=[.int .i64 199,.int .i64 t357,.int .i64 t358,.int .i64 a0_2,.int .i64 a0_3,.int .i64 t359]) (ok:=fun _ => True) (okp:=fun _ => True) ?hr ?hp (fun _ hk => by first|exact hk|(revert hk;dsimp only;grind)|grind) trivial (Below.refl _ _) (Nat.le_refl _) (by simp) ?_;(case hd => rfl);(case hg => rfl);(case hr => first|(go_simp;done)|(go_simp;rfl));(case hp => exact (Reps.one (show Kd.M (Kd.int .i64) _ _ _ 199 [.int .i64 199] from rfl) (Reps.one (show Kd.M (Kd.int .i64) _ _ _ t357 [.int .i64 t357] from rfl) (Reps.one (show Kd.M (Kd.int .i64) _ _ _ t358 [.int .i64 t358] from rfl) (Reps.one (show Kd.M (Kd.int .i64) _ _ _ a0_2 [.int .i64 a0_2] from rfl) (Reps.one (show Kd.M (Kd.int .i64) _ _ _ a0_3 [.int .i64 a0_3] from rfl) (Reps.one (show Kd.M (Kd.int .i64) _ _ _ t359 [.int .i64 t359] from rfl) (Reps.none _ _))))))));intro v361 w9 ho10 hb hg_ hnew_;clear hg_ hnew_
 (first|rw [← Ny360.out] at ho10|(simp only [Int.reduceToNat] at ho10;rw [← Ny360.out] at ho10))
 have HO362:=Am11_ (Kd.R_lower ho10 (below_size (by repeat (first|(with_reducible first|exact HB.out|apply below_alloc|apply pw_below_drewN|apply below_drew1|refine below_set ?_ GE356.out)|exact HB.out))));replace BK356:=bb_ BK356 hb;replace HB:=Am11_ (below_step (by repeat (first|(with_reducible first|exact HB.out|apply below_alloc|apply pw_below_drewN|apply below_drew1|refine below_set ?_ GE356.out)|exact HB.out)) hb);clear hb ho10;refine hK.out _ _ ⟨q_ BK356 0 rfl,q_ BK356 1 rfl,q_ BK356 2 rfl,q_ BK356 3 rfl,q_ BK356 4 rfl,q_ BK356 5 rfl,q_ BK356 6 rfl⟩ (fun hHeld => ?_);clear hK K;refine norm_ (a':=?_) ?_ ?_;rotate_left
 ·show Act.put _ (some 16) _=_
  simp only [Act.put,Sa_,Sb_,Sc_,i64_w,i32_w]
  rfl
 refine pure_ (i:=14) (N:=some 2) (v:=?_) (a':=?_) #[true,true,true,true,true,true,true,true,true,true,true,true,true,true,true] rfl rfl (any_of HT_.out (by kernel_rfl)) (fun _ _ _ h => h) (Or.inl ⟨by rfl,?_⟩) ?_ ?_;rotate_left
 ·intro w'
  go_simp
  with_reducible rfl
 rotate_left
 ·simp only [Act.put,Sa_,Sb_,Sc_,i64_w,i32_w]
  rfl
 refine done_ (done_of HT_.out (by kernel_rfl)) ?_
 try go_wp2
 go_ret
 exact ⟨_,by first|rfl|(simp [errW_none,errW_some] <;> rfl)|(simp [*,errW_none,errW_some] <;> rfl),by (with_reducible repeat (first|apply Kd.R_alloc|apply Kd.R_drewN|apply Kd.R_drew));exact HO362.out,by repeat (first|(with_reducible first|exact HB.out|apply below_alloc|apply pw_below_drewN|apply below_drew1|refine below_set ?_ GE356.out)|exact HB.out)⟩

end Go.Proofs.YtogcoedmagoogaaDoor.PFnExactRelayAssertion
