/- Functions and contracts of a law's callees, written by a program of this session (a changed print): each contract says that the machine's call answers what the plain function says. Conditions: the plain function's own answer. -/
import Derived.Test.YtogcoedmagoogaaGreatDoorZPFnAssertionsx0
import Derived.Test.YtogcoedmagoogaaGreatDoorZPFnAssertionsx3
import Derived.Test.YtogcoedmagoogaaGreatDoorZPFnAssertionsx6
namespace Go.Proofs.YtogcoedmagoogaaGreatDoor.PFnAssertions
open Go.RowKit Go.Proofs.YtogcoedmagoogaaGreatDoorW.PrintWords Go.Proofs.YtogcoedmagoogaaGreatDoorW.PrintLast Go.Proofs.YtogcoedmagoogaaGreatDoorW.PrintMore
attribute [local go_sem] max2_int min2_int max_two min_two max_three min_three max_four min_four   -- for this text's walks alone
set_option linter.unusedVariables false
set_option linter.unusedSimpArgs false
abbrev Am7_ {p : Prop} (h : p) : Aside0 p := Aside0.mk h

namespace Y7
class Ex_ (w W:World):Prop where
 k:∀ {g:Nat} {o:Obj},w.heap[g]?=some o → W.heap[g]?=some o
 e:∀ {v:World},Below v.heap.size v w → Below v.heap.size v W
instance (priority:=low) Ex_.rf (w:World):Ex_ w w:=⟨fun h => h,fun h => h⟩
instance Ex_.dn {w W:World} [x:Ex_ w W] (n:Nat):Ex_ w (W.drewN n):=⟨fun h => blk_drewN (x.k h) n,fun h => pw_below_drewN (x.e h) n⟩
instance Ex_.dr {w W:World} [x:Ex_ w W]:Ex_ w W.drew:=⟨fun h => blk_drew (x.k h),fun h => below_drew1 (x.e h)⟩
instance Ex_.al {w W:World} [x:Ex_ w W] (o:Obj):Ex_ w (W.alloc o):=⟨fun h => blk_alloc (x.k h) o,fun h => below_alloc (x.e h) o⟩
theorem xk_ {w W:World} {g:Nat} {o:Obj} (h:Aside0 (w.heap[g]?=some o)) [x:Ex_ w W]:W.heap[g]?=some o:=x.k h.out
theorem ne1_ {w W:World} {g g':Nat} {o:Obj} (hg:g'=W.heap.size) (h:Aside0 (w.heap[g]?=some o)) [x:Ex_ w W]:Aside0 (g ≠ g'):=Am7_ (by rw [hg];exact Nat.ne_of_lt (blk_lt (x.k h.out)))
theorem ne2_ {w W:World} {g g':Nat} {o:Obj} (hg:g'=W.heap.size) (h:Aside0 (w.heap[g]?=some o)) [x:Ex_ w W]:Aside0 (g' ≠ g):=Am7_ (by rw [hg];exact Nat.ne_of_gt (blk_lt (x.k h.out)))
theorem gw_ {v w W:World} {g':Nat} (hg:g'=W.heap.size) (h:Aside0 (Below v.heap.size v w)) [x:Ex_ w W]:Aside0 (v.heap.size ≤ g'):=Am7_ (by rw [hg];exact below_size (x.e h.out))
theorem bb_ {w W W':World} {g:Nat} {o:Obj} (h:Aside0 (w.heap[g]?=some o)) (hb:Below W.heap.size W W') [x:Ex_ w W]:Aside0 (W'.heap[g]?=some o):=Am7_ (blk_below (x.k h.out) hb)
theorem bs_ {v w W W':World} (h:Aside0 (Below v.heap.size v w)) (hb:Below W.heap.size W W') [x:Ex_ w W]:Aside0 (Below v.heap.size v W'):=Am7_ (below_step (x.e h.out) hb)
theorem xe_ {v w W:World} (h:Aside0 (Below v.heap.size v w)) [x:Ex_ w W]:Below v.heap.size v W:=x.e h.out
end Y7
open Y7

namespace Y7
abbrev Sa_ := @List.setIfInBounds_toArray
abbrev Sb_ := @List.set_cons_zero
abbrev Sc_ := @List.set_cons_succ
theorem q_ {w W : World} {g : Nat} {t : TypeId} {cs : Array Value} (h : Aside0 (w.heap[g]? = some (.cells cs t (0, 0)))) (i : Nat) {v : Option Value} (e : cs[i]? = v) [x : Ex_ w W] : W.cell? ⟨g, i, none⟩ = v := (blk_cell (x.k h.out) i).trans e
end Y7
open Y7
/-! ### impl_ParseOrigin: function 25 -/
mutual
def impl_ParseOrigin.j0:Nat → ByteArray → ByteArray → Bool → Bool → ByteArray → Int → Option (Bool × ByteArray × Int × Bool)
|0,_,_,_,_,_,_ => none
|k + 1,x0,x5,x6,x267000,x267001,x267002 => if x6=true then ((strings_Cut.f x5 (⟨#[58]⟩:ByteArray)).bind fun bt271 => (if bt271.2.2=true then ((impl_ParseInt.f bt271.2.1).bind fun bt274 => (if bt274.2=true then (impl_ParseOrigin.j1 k x0 x267000 bt271.1 bt274.1) else (some (false,(⟨#[]⟩:ByteArray),0,false)))) else (impl_ParseOrigin.j1 k x0 x267000 bt271.1 x267002))) else (some (false,(⟨#[]⟩:ByteArray),0,false))
def impl_ParseOrigin.j1:Nat → ByteArray → Bool → ByteArray → Int → Option (Bool × ByteArray × Int × Bool)
|0,_,_,_,_ => none
|k + 1,x0,x267000,x267001,x267002 => (impl_IsOrigin.f k x267000 x267001 x267002).bind fun t276 => (if t276=true then ((impl_FormatOrigin.f k x267000 x267001 x267002).bind fun t277 => (if t277.toList=x0.toList then (some (x267000,x267001,x267002,true)) else (some (false,(⟨#[]⟩:ByteArray),0,false)))) else (some (false,(⟨#[]⟩:ByteArray),0,false)))
end
def impl_ParseOrigin.f (k:Nat) (a0:ByteArray):Option (Bool × ByteArray × Int × Bool):=(strings_CutPrefix.f a0 (⟨#[104,116,116,112,58,47,47]⟩:ByteArray)).bind fun bt267 => (if bt267.2=true then (impl_ParseOrigin.j0 k a0 bt267.1 bt267.2 false (⟨#[]⟩:ByteArray) 80) else ((strings_CutPrefix.f a0 (⟨#[104,116,116,112,115,58,47,47]⟩:ByteArray)).bind fun bt269 => (impl_ParseOrigin.j0 k a0 bt269.1 bt269.2 true (⟨#[]⟩:ByteArray) 443)))
theorem impl_ParseOrigin.mono_l:∀ k,(∀ y0 y1 y2 y3 y4 y5,LeO (impl_ParseOrigin.j0 k y0 y1 y2 y3 y4 y5) (impl_ParseOrigin.j0 (k + 1) y0 y1 y2 y3 y4 y5))∧(∀ y0 y1 y2 y3,LeO (impl_ParseOrigin.j1 k y0 y1 y2 y3) (impl_ParseOrigin.j1 (k + 1) y0 y1 y2 y3))
|0 => ⟨fun _ _ _ _ _ _ r h => by simp [impl_ParseOrigin.j0] at h,fun _ _ _ _ r h => by simp [impl_ParseOrigin.j1] at h⟩
|k + 1 => by
  obtain ⟨ih0,ih1⟩:=impl_ParseOrigin.mono_l k;refine ⟨?_,?_⟩
  ·intro y0 y1 y2 y3 y4 y5
   unfold impl_ParseOrigin.j0
   repeat' first
  |(with_reducible exact ih0 _ _ _ _ _ _)
  |(with_reducible exact ih1 _ _ _ _)
  |(with_reducible exact impl_FormatOrigin.mono _ _ _ _)
  |(with_reducible exact impl_IsOrigin.mono _ _ _ _)
  |(with_reducible exact LeO.refl _)
  |(with_reducible exact LeO.none _)
  |(with_reducible refine LeO.ite ?_ ?_)
  |(with_reducible refine LeO.bind ?_ (fun _ => ?_))
  |exact ih0 _ _ _ _ _ _
  |exact ih1 _ _ _ _
  |exact impl_FormatOrigin.mono _ _ _ _
  |exact impl_IsOrigin.mono _ _ _ _
  |exact LeO.none _
  |refine LeO.ite ?_ ?_
  |refine LeO.bind ?_ (fun _ => ?_)
  ·intro y0 y1 y2 y3
   unfold impl_ParseOrigin.j1
   repeat' first
  |(with_reducible exact ih0 _ _ _ _ _ _)
  |(with_reducible exact ih1 _ _ _ _)
  |(with_reducible exact impl_FormatOrigin.mono _ _ _ _)
  |(with_reducible exact impl_IsOrigin.mono _ _ _ _)
  |(with_reducible exact LeO.refl _)
  |(with_reducible exact LeO.none _)
  |(with_reducible refine LeO.ite ?_ ?_)
  |(with_reducible refine LeO.bind ?_ (fun _ => ?_))
  |exact ih0 _ _ _ _ _ _
  |exact ih1 _ _ _ _
  |exact impl_FormatOrigin.mono _ _ _ _
  |exact impl_IsOrigin.mono _ _ _ _
  |exact LeO.none _
  |refine LeO.ite ?_ ?_
  |refine LeO.bind ?_ (fun _ => ?_)
theorem impl_ParseOrigin.mono:∀ a0 k,LeO (impl_ParseOrigin.f k a0) (impl_ParseOrigin.f (k + 1) a0):=by
 intro a0 k;obtain ⟨ih0,ih1⟩:=impl_ParseOrigin.mono_l k
 unfold impl_ParseOrigin.f
 repeat' first
  |(with_reducible exact ih0 _ _ _ _ _ _)
  |(with_reducible exact ih1 _ _ _ _)
  |(with_reducible exact impl_FormatOrigin.mono _ _ _ _)
  |(with_reducible exact impl_IsOrigin.mono _ _ _ _)
  |(with_reducible exact LeO.refl _)
  |(with_reducible exact LeO.none _)
  |(with_reducible refine LeO.ite ?_ ?_)
  |(with_reducible refine LeO.bind ?_ (fun _ => ?_))
  |exact ih0 _ _ _ _ _ _
  |exact ih1 _ _ _ _
  |exact impl_FormatOrigin.mono _ _ _ _
  |exact impl_IsOrigin.mono _ _ _ _
  |exact LeO.none _
  |refine LeO.ite ?_ ?_
  |refine LeO.bind ?_ (fun _ => ?_)
set_option maxHeartbeats 8000000 in
set_option maxRecDepth 100000 in
theorem impl_ParseOrigin.calls (k:Nat) (a0:ByteArray) (r1:Bool) (r2:ByteArray) (r3:Int) (r4:Bool) (w:World) (ht_:Man.Tab w) (h:impl_ParseOrigin.f k a0=some (r1,r2,r3,r4)) :
  Calls Tryz.prog 25 #[.string a0] w fun e w' => e=.returned (.tuple #[.agg #[.bool r1,.string r2,.int .i64 r3],.bool r4])∧Below w.heap.size w w':=by
 have HT:=Am7_ ht_;clear ht_;have hu28:=Tryz.underlying28;have HB:=Am7_ (Below.refl w.heap.size w);have H:=h;unfold impl_ParseOrigin.f at H;clear h;replace H:=Option.bind_eq_some_iff.mp H;obtain ⟨⟨t267,t268⟩,A20,H⟩:=H
 try dsimp only at H
 have A2:=Am7_ A20;clear A20;have HC3:=Am7_ H;clear H
 go_enter Tryz.func25,Tryz.ntmps25
 go_upto_if 19 with (first|((with_reducible refine gate_dst (N:=2) rfl ?_);refine box_event ?hg (N:=2) ?hd (cs:=#[.bool false,.string (⟨#[]⟩:ByteArray),.int .i64 0]) (t:=28) ?hr ?_;(case hd => rfl);(case hg => rfl);(case hr => first|(go_simp;done)|(go_simp;rfl));intro gb265 hg w4 hbox hb;have n0_:=bs_ HB hb;have n1_:=Am7_ (hbox);have n2_:=gw_ hg HB;have n3_:=gw_ hg HB;clear HB;have HB:=n0_;have BK265:=n1_;have GW265:=n2_;have GE265:=n3_;clear n0_ n1_ n2_ n3_;clear hb hbox hg)|((with_reducible refine gate_dst (N:=4) rfl ?_);refine box_event ?hg (N:=4) ?hd (cs:=#[.bool false,.string (⟨#[]⟩:ByteArray),.int .i64 0]) (t:=28) ?hr ?_;(case hd => rfl);(case hg => rfl);(case hr => first|(go_simp;done)|(go_simp;rfl));intro gb266 hg w5 hbox hb;have n0_:=bb_ BK265 hb;have n1_:=bs_ HB hb;have n2_:=Am7_ (hbox);have n3_:=gw_ hg HB;have n4_:=gw_ hg HB;have n5_:=ne1_ hg BK265;have n6_:=ne2_ hg BK265;clear BK265;clear HB;have BK265:=n0_;have HB:=n1_;have BK266:=n2_;have GW266:=n3_;have GE266:=n4_;have NB265_266:=n5_;have NB266_265:=n6_;clear n0_ n1_ n2_ n3_ n4_ n5_ n6_;clear hb hbox hg;have hnb6:=NB266_265.out;have hnc6:=NB265_266.out;have hcz7_0:w5.cell? ⟨gb266,0,none⟩=some (.bool false):=q_ BK266 0 rfl;have hcz7_1:w5.cell? ⟨gb266,1,none⟩=some (.string (⟨#[]⟩:ByteArray)):=q_ BK266 1 rfl;have hcz7_2:w5.cell? ⟨gb266,2,none⟩=some (.int .i64 0):=q_ BK266 2 rfl;have hfz7_0:=blk_frozen BK266.out 0;have hfz7_1:=blk_frozen BK266.out 1;have hfz7_2:=blk_frozen BK266.out 2)|((with_reducible refine gate_callee (f:=54) rfl ?_);refine goesL_ (some 15) rfl rfl Tryz.func54 (by kernel_rfl) rfl #[.string a0,.string (⟨#[104,116,116,112,58,47,47]⟩:ByteArray)] rfl (by (try simp only [List.map_toArray,List.map_cons,List.map_nil]);first|done|rfl|(simp only [List.length_drop,List.length_take];rfl)) ?_;(with_reducible refine (strings_CutPrefix.calls a0 (⟨#[104,116,116,112,58,47,47]⟩:ByteArray) t267 t268 _ A2.out).mono ?_);rintro e w' ⟨rfl,⟨nd,rfl⟩⟩;refine ⟨_,rfl,?_⟩))
 (try simp only [Act.put,Sa_,Sb_,Sc_])
 go_cut [5,6] (fun v5 v6 wc => ∃ (kq:Nat) (x5_2:ByteArray) (x6_2:Bool) (x267000_2:Bool) (x267001_2:ByteArray) (x267002_2:Int),v5=.string x5_2∧v6=.bool x6_2∧Aside0 (impl_ParseOrigin.j0 kq a0 x5_2 x6_2 x267000_2 x267001_2 x267002_2=some (r1,r2,r3,r4))∧Aside0 (kq ≤ k)∧Aside0 (wc.heap[gb265]?=some (.cells #[.bool false,.string (⟨#[]⟩:ByteArray),.int .i64 0] 28 (0,0)))∧Aside0 (wc.heap[gb266]?=some (.cells #[.bool x267000_2,.string x267001_2,.int .i64 x267002_2] 28 (0,0)))∧Aside0 (Below w.heap.size w wc))
 case first =>
  have H:=HC3.out;clear HC3
  by_cases c8:t268=true
  ·subst c8
   rw [if_pos rfl] at H
   have H':=Am7_ H;clear H
   go_wp2
   go_meet
   case rel => exact ⟨_,(t267),(true),(false),((⟨#[]⟩:ByteArray)),(80),(by first|rfl|(simp;done)|(simp [*];done)),(by first|rfl|(simp;done)|(simp [*];done)),H',⟨by first|omega|exact Nat.le_refl _⟩,⟨by (with_reducible repeat (first|refine blk_drewN ?_ _|refine blk_drew ?_|refine blk_alloc ?_ _));refine blk_far ?_ NB265_266.out _;(with_reducible repeat (first|refine blk_drewN ?_ _|refine blk_drew ?_|refine blk_alloc ?_ _));refine blk_far ?_ NB265_266.out _;(with_reducible repeat (first|refine blk_drewN ?_ _|refine blk_drew ?_|refine blk_alloc ?_ _));refine blk_far ?_ NB265_266.out _;(with_reducible repeat (first|refine blk_drewN ?_ _|refine blk_drew ?_|refine blk_alloc ?_ _));exact BK265.out⟩,⟨by (with_reducible repeat (first|refine blk_drewN ?_ _|refine blk_drew ?_|refine blk_alloc ?_ _));refine blk_put (cs:=#[.bool false,.string (⟨#[]⟩:ByteArray),.int .i64 0]) ?_ 2 _ rfl;(with_reducible repeat (first|refine blk_drewN ?_ _|refine blk_drew ?_|refine blk_alloc ?_ _));refine blk_put (cs:=#[.bool false,.string (⟨#[]⟩:ByteArray),.int .i64 0]) ?_ 1 _ rfl;(with_reducible repeat (first|refine blk_drewN ?_ _|refine blk_drew ?_|refine blk_alloc ?_ _));refine blk_put (cs:=#[.bool false,.string (⟨#[]⟩:ByteArray),.int .i64 0]) ?_ 0 _ rfl;(with_reducible repeat (first|refine blk_drewN ?_ _|refine blk_drew ?_|refine blk_alloc ?_ _));exact BK266.out⟩,⟨by repeat (first|(with_reducible first|exact HB.out|apply below_alloc|apply pw_below_drewN|apply below_drew1|refine below_set ?_ GE265.out|refine below_set ?_ GE266.out)|exact HB.out)⟩⟩
  ·replace c8:=Bool.eq_false_iff.mpr c8;subst c8
   rw [if_neg (show ¬ (false=true) by decide)] at H
   replace H:=Option.bind_eq_some_iff.mp H;obtain ⟨⟨t269,t270⟩,A90,H⟩:=H
   try dsimp only at H
   have A9:=Am7_ A90;clear A90;have H':=Am7_ H;clear H
   go_wp2_with (first|((with_reducible refine gate_callee (f:=54) rfl ?_);refine goesL_ (some 22) rfl rfl Tryz.func54 (by kernel_rfl) rfl #[.string a0,.string (⟨#[104,116,116,112,115,58,47,47]⟩:ByteArray)] rfl (by (try simp only [List.map_toArray,List.map_cons,List.map_nil]);first|done|rfl|(simp only [List.length_drop,List.length_take];rfl)) ?_;(with_reducible refine (strings_CutPrefix.calls a0 (⟨#[104,116,116,112,115,58,47,47]⟩:ByteArray) t269 t270 _ A9.out).mono ?_);rintro e w' ⟨rfl,⟨nd,rfl⟩⟩;refine ⟨_,rfl,?_⟩;have hnb10:=NB266_265.out;have hnc10:=NB265_266.out;have hcz11_0:w5.cell? ⟨gb266,0,none⟩=some (.bool false):=q_ BK266 0 rfl;have hcz11_1:w5.cell? ⟨gb266,1,none⟩=some (.string (⟨#[]⟩:ByteArray)):=q_ BK266 1 rfl;have hcz11_2:w5.cell? ⟨gb266,2,none⟩=some (.int .i64 0):=q_ BK266 2 rfl;have hfz11_0:=blk_frozen BK266.out 0;have hfz11_1:=blk_frozen BK266.out 1;have hfz11_2:=blk_frozen BK266.out 2))
   go_meet
   case rel => exact ⟨_,(t269),(t270),(true),((⟨#[]⟩:ByteArray)),(443),(by first|rfl|(simp;done)|(simp [*];done)),(by first|rfl|(simp;done)|(simp [*];done)),H',⟨by first|omega|exact Nat.le_refl _⟩,⟨by (with_reducible repeat (first|refine blk_drewN ?_ _|refine blk_drew ?_|refine blk_alloc ?_ _));refine blk_far ?_ NB265_266.out _;(with_reducible repeat (first|refine blk_drewN ?_ _|refine blk_drew ?_|refine blk_alloc ?_ _));refine blk_far ?_ NB265_266.out _;(with_reducible repeat (first|refine blk_drewN ?_ _|refine blk_drew ?_|refine blk_alloc ?_ _));refine blk_far ?_ NB265_266.out _;(with_reducible repeat (first|refine blk_drewN ?_ _|refine blk_drew ?_|refine blk_alloc ?_ _));refine blk_far ?_ NB265_266.out _;(with_reducible repeat (first|refine blk_drewN ?_ _|refine blk_drew ?_|refine blk_alloc ?_ _));refine blk_far ?_ NB265_266.out _;(with_reducible repeat (first|refine blk_drewN ?_ _|refine blk_drew ?_|refine blk_alloc ?_ _));refine blk_far ?_ NB265_266.out _;(with_reducible repeat (first|refine blk_drewN ?_ _|refine blk_drew ?_|refine blk_alloc ?_ _));exact BK265.out⟩,⟨by (with_reducible repeat (first|refine blk_drewN ?_ _|refine blk_drew ?_|refine blk_alloc ?_ _));refine blk_put (cs:=#[.bool true,.string (⟨#[]⟩:ByteArray),.int .i64 80]) ?_ 2 _ rfl;(with_reducible repeat (first|refine blk_drewN ?_ _|refine blk_drew ?_|refine blk_alloc ?_ _));refine blk_put (cs:=#[.bool true,.string (⟨#[]⟩:ByteArray),.int .i64 80]) ?_ 1 _ rfl;(with_reducible repeat (first|refine blk_drewN ?_ _|refine blk_drew ?_|refine blk_alloc ?_ _));refine blk_put (cs:=#[.bool false,.string (⟨#[]⟩:ByteArray),.int .i64 80]) ?_ 0 _ rfl;(with_reducible repeat (first|refine blk_drewN ?_ _|refine blk_drew ?_|refine blk_alloc ?_ _));refine blk_put (cs:=#[.bool false,.string (⟨#[]⟩:ByteArray),.int .i64 0]) ?_ 2 _ rfl;(with_reducible repeat (first|refine blk_drewN ?_ _|refine blk_drew ?_|refine blk_alloc ?_ _));refine blk_put (cs:=#[.bool false,.string (⟨#[]⟩:ByteArray),.int .i64 0]) ?_ 1 _ rfl;(with_reducible repeat (first|refine blk_drewN ?_ _|refine blk_drew ?_|refine blk_alloc ?_ _));refine blk_put (cs:=#[.bool false,.string (⟨#[]⟩:ByteArray),.int .i64 0]) ?_ 0 _ rfl;(with_reducible repeat (first|refine blk_drewN ?_ _|refine blk_drew ?_|refine blk_alloc ?_ _));exact BK266.out⟩,⟨by repeat (first|(with_reducible first|exact HB.out|apply below_alloc|apply pw_below_drewN|apply below_drew1|refine below_set ?_ GE265.out|refine below_set ?_ GE266.out)|exact HB.out)⟩⟩
 case rest =>
  clear HC3
  try clear c1
  try clear c2
  try clear p2
  try clear c5
  try clear c6
  try clear c8
  try clear c10
  try clear hcz11_0
  try clear hcz11_1
  try clear hcz11_2
  try clear hcz7_0
  try clear hcz7_1
  try clear hcz7_2
  try clear hfz11_0
  try clear hfz11_1
  try clear hfz11_2
  try clear hfz7_0
  try clear hfz7_1
  try clear hfz7_2
  obtain ⟨kq,x5_2,x6_2,x267000_2,x267001_2,x267002_2,rfl,rfl,HA,HJ2,BK265,BK266,HB⟩:=hcut
  cases kq with
 |zero => exact absurd HA.out (by simp [impl_ParseOrigin.j0])
 |succ kj2 =>
   have H:=HA.out;clear HA;simp only [impl_ParseOrigin.j0] at H
   by_cases c12:x6_2=true
   ·subst c12
    rw [if_pos rfl] at H
    replace H:=Option.bind_eq_some_iff.mp H;obtain ⟨⟨t271,t272,t273⟩,A130,H⟩:=H
    try dsimp only at H
    have A13:=Am7_ A130;clear A130;have HC14:=Am7_ H;clear H
    go_upto_if 37 with (first|((with_reducible refine gate_callee (f:=55) rfl ?_);refine goesL_ (some 31) rfl rfl Tryz.func55 (by kernel_rfl) rfl #[.string x5_2,.string (⟨#[58]⟩:ByteArray)] rfl (by (try simp only [List.map_toArray,List.map_cons,List.map_nil]);first|done|rfl|(simp only [List.length_drop,List.length_take];rfl)) ?_;(with_reducible refine (strings_Cut.calls x5_2 (⟨#[58]⟩:ByteArray) t271 t272 t273 _ A13.out).mono ?_);rintro e w' ⟨rfl,⟨nd,rfl⟩⟩;refine ⟨_,rfl,?_⟩;(try (rw [drewN_self wc];generalize hq_:World.drewN wc _=wc;have n0_:Aside0 (wc.heap[gb265]?=some (.cells #[.bool false,.string (⟨#[]⟩:ByteArray),.int .i64 0] 28 (0,0))):=⟨by rw [← hq_];exact (xk_ BK265)⟩;have n1_:Aside0 (wc.heap[gb266]?=some (.cells #[.bool x267000_2,.string x267001_2,.int .i64 x267002_2] 28 (0,0))):=⟨by rw [← hq_];exact (xk_ BK266)⟩;have n2_:Aside0 (Below w.heap.size w wc):=⟨by rw [← hq_];exact (xe_ HB)⟩;clear BK265 BK266 HB hq_;have BK265:=n0_;have BK266:=n1_;have HB:=n2_;clear n0_ n1_ n2_));have hnb15:=NB266_265.out;have hnc15:=NB265_266.out;have hcz16_0:wc.cell? ⟨gb266,0,none⟩=some (.bool x267000_2):=q_ BK266 0 rfl;have hcz16_1:wc.cell? ⟨gb266,1,none⟩=some (.string x267001_2):=q_ BK266 1 rfl;have hcz16_2:wc.cell? ⟨gb266,2,none⟩=some (.int .i64 x267002_2):=q_ BK266 2 rfl;have hfz16_0:=blk_frozen BK266.out 0;have hfz16_1:=blk_frozen BK266.out 1;have hfz16_2:=blk_frozen BK266.out 2))
    (try simp only [Act.put,Sa_,Sb_,Sc_])
    go_cut [] (fun wc => ∃ (kq:Nat) (x266000_13:Bool) (x266001_13:ByteArray) (x266002_13:Int) (x267002_13:Int),Aside0 (impl_ParseOrigin.j1 kq a0 x267000_2 t271 x267002_13=some (r1,r2,r3,r4))∧Aside0 (kq ≤ kj2)∧Aside0 (wc.heap[gb265]?=some (.cells #[.bool x266000_13,.string x266001_13,.int .i64 x266002_13] 28 (0,0)))∧Aside0 (wc.heap[gb266]?=some (.cells #[.bool x267000_2,.string t271,.int .i64 x267002_13] 28 (0,0)))∧Aside0 (Below w.heap.size w wc))
    case first =>
     have H:=HC14.out;clear HC14
     by_cases c17:t273=true
     ·subst c17
      rw [if_pos rfl] at H
      replace H:=Option.bind_eq_some_iff.mp H;obtain ⟨⟨t274,t275⟩,A180,H⟩:=H
      try dsimp only at H
      have A18:=Am7_ A180;clear A180
      by_cases c19:t275=true
      ·subst c19
       rw [if_pos rfl] at H
       have H':=Am7_ H;clear H
       go_wp2_with (first|((with_reducible refine gate_callee (f:=56) rfl ?_);refine goesL_ (some 40) rfl rfl Tryz.func56 (by kernel_rfl) rfl #[.string t272] rfl (by (try simp only [List.map_toArray,List.map_cons,List.map_nil]);first|done|rfl|(simp only [List.length_drop,List.length_take];rfl)) ?_;(with_reducible refine (impl_ParseInt.calls (ht_:=Man.tab_on HT.out (by repeat (first|(with_reducible first|exact HB.out|apply below_alloc|apply pw_below_drewN|apply below_drew1|refine below_set ?_ GE265.out|refine below_set ?_ GE266.out)|exact HB.out))) t272 t274 true _ A18.out).mono ?_);rintro e w20 ⟨rfl,hb⟩;refine ⟨_,rfl,?_⟩;have n0_:=Am7_ (blk_below (g:=gb265) (o:=.cells #[.bool false,.string (⟨#[]⟩:ByteArray),.int .i64 0] 28 (0,0)) (by (repeat (first|(with_reducible first|refine blk_drewN ?_ _|refine blk_drew ?_|refine blk_alloc ?_ _)|refine blk_far ?_ NB265_266.out _));exact BK265.out) hb);have n1_:=Am7_ (blk_below (g:=gb266) (o:=.cells #[.bool x267000_2,.string t271,.int .i64 x267002_2] 28 (0,0)) (by (with_reducible repeat (first|refine blk_drewN ?_ _|refine blk_drew ?_|refine blk_alloc ?_ _));refine blk_put (cs:=#[.bool x267000_2,.string x267001_2,.int .i64 x267002_2]) ?_ 1 _ rfl;(with_reducible repeat (first|refine blk_drewN ?_ _|refine blk_drew ?_|refine blk_alloc ?_ _));exact BK266.out) hb);have n2_:=Am7_ (below_step (by repeat (first|(with_reducible first|exact HB.out|apply below_alloc|apply pw_below_drewN|apply below_drew1|refine below_set ?_ GE265.out|refine below_set ?_ GE266.out)|exact HB.out)) hb);clear BK265;clear BK266;clear HB;have BK265:=n0_;have BK266:=n1_;have HB:=n2_;clear n0_ n1_ n2_;(try clear hb);(try clear hb2);(try clear hk);(try clear hi);have hnb21:=NB266_265.out;have hnc21:=NB265_266.out;have hcz22_0:w20.cell? ⟨gb266,0,none⟩=some (.bool x267000_2):=q_ BK266 0 rfl;have hcz22_1:w20.cell? ⟨gb266,1,none⟩=some (.string t271):=q_ BK266 1 rfl;have hcz22_2:w20.cell? ⟨gb266,2,none⟩=some (.int .i64 x267002_2):=q_ BK266 2 rfl;have hfz22_0:=blk_frozen BK266.out 0;have hfz22_1:=blk_frozen BK266.out 1;have hfz22_2:=blk_frozen BK266.out 2))
       go_meet
       case rel => exact ⟨_,(false),((⟨#[]⟩:ByteArray)),(0),(t274),H',⟨by have:=HJ2.out;first|omega|exact Nat.le_refl _⟩,⟨by (with_reducible repeat (first|refine blk_drewN ?_ _|refine blk_drew ?_|refine blk_alloc ?_ _));refine blk_far ?_ NB265_266.out _;(with_reducible repeat (first|refine blk_drewN ?_ _|refine blk_drew ?_|refine blk_alloc ?_ _));exact BK265.out⟩,⟨by (with_reducible repeat (first|refine blk_drewN ?_ _|refine blk_drew ?_|refine blk_alloc ?_ _));refine blk_put (cs:=#[.bool x267000_2,.string t271,.int .i64 x267002_2]) ?_ 2 _ rfl;(with_reducible repeat (first|refine blk_drewN ?_ _|refine blk_drew ?_|refine blk_alloc ?_ _));exact BK266.out⟩,⟨by repeat (first|(with_reducible first|exact HB.out|apply below_alloc|apply pw_below_drewN|apply below_drew1|refine below_set ?_ GE265.out|refine below_set ?_ GE266.out)|exact HB.out)⟩⟩
      ·replace c19:=Bool.eq_false_iff.mpr c19;subst c19
       rw [if_neg (show ¬ (false=true) by decide)] at H
       simp only [Option.some.injEq,Prod.mk.injEq] at H
       obtain ⟨rfl,rfl,rfl,rfl⟩:=H
       go_wp2_with (first|((with_reducible refine gate_callee (f:=56) rfl ?_);refine goesL_ (some 40) rfl rfl Tryz.func56 (by kernel_rfl) rfl #[.string t272] rfl (by (try simp only [List.map_toArray,List.map_cons,List.map_nil]);first|done|rfl|(simp only [List.length_drop,List.length_take];rfl)) ?_;(with_reducible refine (impl_ParseInt.calls (ht_:=Man.tab_on HT.out (by repeat (first|(with_reducible first|exact HB.out|apply below_alloc|apply pw_below_drewN|apply below_drew1|refine below_set ?_ GE265.out|refine below_set ?_ GE266.out)|exact HB.out))) t272 t274 false _ A18.out).mono ?_);rintro e w23 ⟨rfl,hb⟩;refine ⟨_,rfl,?_⟩;have n0_:=Am7_ (blk_below (g:=gb265) (o:=.cells #[.bool false,.string (⟨#[]⟩:ByteArray),.int .i64 0] 28 (0,0)) (by (repeat (first|(with_reducible first|refine blk_drewN ?_ _|refine blk_drew ?_|refine blk_alloc ?_ _)|refine blk_far ?_ NB265_266.out _));exact BK265.out) hb);have n1_:=Am7_ (blk_below (g:=gb266) (o:=.cells #[.bool x267000_2,.string t271,.int .i64 x267002_2] 28 (0,0)) (by (with_reducible repeat (first|refine blk_drewN ?_ _|refine blk_drew ?_|refine blk_alloc ?_ _));refine blk_put (cs:=#[.bool x267000_2,.string x267001_2,.int .i64 x267002_2]) ?_ 1 _ rfl;(with_reducible repeat (first|refine blk_drewN ?_ _|refine blk_drew ?_|refine blk_alloc ?_ _));exact BK266.out) hb);have n2_:=Am7_ (below_step (by repeat (first|(with_reducible first|exact HB.out|apply below_alloc|apply pw_below_drewN|apply below_drew1|refine below_set ?_ GE265.out|refine below_set ?_ GE266.out)|exact HB.out)) hb);clear BK265;clear BK266;clear HB;have BK265:=n0_;have BK266:=n1_;have HB:=n2_;clear n0_ n1_ n2_;(try clear hb);(try clear hb2);(try clear hk);(try clear hi);have hnb24:=NB265_266.out;have hnc24:=NB266_265.out;have hcz25_0:w23.cell? ⟨gb265,0,none⟩=some (.bool false):=q_ BK265 0 rfl;have hcz25_1:w23.cell? ⟨gb265,1,none⟩=some (.string (⟨#[]⟩:ByteArray)):=q_ BK265 1 rfl;have hcz25_2:w23.cell? ⟨gb265,2,none⟩=some (.int .i64 0):=q_ BK265 2 rfl;have hfz25_0:=blk_frozen BK265.out 0;have hfz25_1:=blk_frozen BK265.out 1;have hfz25_2:=blk_frozen BK265.out 2))
       refine bodyPost_ret (results_ct rfl _ _ gb265 28 #[.bool false,.string (⟨#[]⟩:ByteArray),.int .i64 0] (0,0) _ rfl (by (with_reducible repeat (first|refine blk_drewN ?_ _|refine blk_drew ?_|refine blk_alloc ?_ _));refine blk_put (cs:=#[.bool false,.string (⟨#[]⟩:ByteArray),.int .i64 0]) ?_ 2 _ rfl;(with_reducible repeat (first|refine blk_drewN ?_ _|refine blk_drew ?_|refine blk_alloc ?_ _));refine blk_put (cs:=#[.bool false,.string (⟨#[]⟩:ByteArray),.int .i64 0]) ?_ 1 _ rfl;(with_reducible repeat (first|refine blk_drewN ?_ _|refine blk_drew ?_|refine blk_alloc ?_ _));refine blk_put (cs:=#[.bool false,.string (⟨#[]⟩:ByteArray),.int .i64 0]) ?_ 0 _ rfl;(with_reducible repeat (first|refine blk_drewN ?_ _|refine blk_drew ?_|refine blk_alloc ?_ _));exact BK265.out) Tryz.underlying28 rfl (by kernel_rfl)) rfl ?_;exact ⟨by first|rfl|(simp [errW_none,errW_some] <;> rfl)|(simp [*,errW_none,errW_some] <;> rfl),by repeat (first|(with_reducible first|exact HB.out|apply below_alloc|apply pw_below_drewN|apply below_drew1|refine below_set ?_ GE265.out|refine below_set ?_ GE266.out)|exact HB.out)⟩
     ·replace c17:=Bool.eq_false_iff.mpr c17;subst c17
      rw [if_neg (show ¬ (false=true) by decide)] at H
      have H':=Am7_ H;clear H
      go_wp2
      go_meet
      case rel => exact ⟨_,(false),((⟨#[]⟩:ByteArray)),(0),(x267002_2),H',⟨by have:=HJ2.out;first|omega|exact Nat.le_refl _⟩,⟨by (with_reducible repeat (first|refine blk_drewN ?_ _|refine blk_drew ?_|refine blk_alloc ?_ _));refine blk_far ?_ NB265_266.out _;(with_reducible repeat (first|refine blk_drewN ?_ _|refine blk_drew ?_|refine blk_alloc ?_ _));exact BK265.out⟩,⟨by (with_reducible repeat (first|refine blk_drewN ?_ _|refine blk_drew ?_|refine blk_alloc ?_ _));refine blk_put (cs:=#[.bool x267000_2,.string x267001_2,.int .i64 x267002_2]) ?_ 1 _ rfl;(with_reducible repeat (first|refine blk_drewN ?_ _|refine blk_drew ?_|refine blk_alloc ?_ _));exact BK266.out⟩,⟨by repeat (first|(with_reducible first|exact HB.out|apply below_alloc|apply pw_below_drewN|apply below_drew1|refine below_set ?_ GE265.out|refine below_set ?_ GE266.out)|exact HB.out)⟩⟩
    case rest =>
     clear HC14
     try clear c1
     try clear c2
     try clear p2
     try clear c5
     try clear c6
     try clear c8
     try clear c10
     try clear c12
     try clear c15
     try clear c17
     try clear c19
     try clear c21
     try clear c24
     try clear c25
     try clear hcz11_0
     try clear hcz11_1
     try clear hcz11_2
     try clear hcz16_0
     try clear hcz16_1
     try clear hcz16_2
     try clear hcz22_0
     try clear hcz22_1
     try clear hcz22_2
     try clear hcz25_0
     try clear hcz25_1
     try clear hcz25_2
     try clear hcz7_0
     try clear hcz7_1
     try clear hcz7_2
     try clear hfz11_0
     try clear hfz11_1
     try clear hfz11_2
     try clear hfz16_0
     try clear hfz16_1
     try clear hfz16_2
     try clear hfz22_0
     try clear hfz22_1
     try clear hfz22_2
     try clear hfz25_0
     try clear hfz25_1
     try clear hfz25_2
     try clear hfz7_0
     try clear hfz7_1
     try clear hfz7_2
     try clear p2
     obtain ⟨kq,x266000_13,x266001_13,x266002_13,x267002_13,HA,HJ13,BK265,BK266,HB⟩:=hcut
     cases kq with
    |zero => exact absurd HA.out (by simp [impl_ParseOrigin.j1])
    |succ kj13 =>
      have H:=HA.out;clear HA;simp only [impl_ParseOrigin.j1] at H;replace H:=Option.bind_eq_some_iff.mp H;obtain ⟨t276,A260,H⟩:=H
      try dsimp only at H
      have A26:=Am7_ A260;clear A260
      by_cases c27:t276=true
      ·subst c27
       rw [if_pos rfl] at H
       replace H:=Option.bind_eq_some_iff.mp H;obtain ⟨t277,A280,H⟩:=H
       try dsimp only at H
       have A28:=Am7_ A280;clear A280
       by_cases c29:t277.toList=a0.toList
       ·rw [if_pos c29] at H
        have c29b0:(t277.toList == a0.toList)=true:=beq_iff_eq.mpr c29;have c29b1:(t277.toList != a0.toList)=false:=bne_eq_false_iff_eq.mpr c29;clear c29;simp only [Option.some.injEq,Prod.mk.injEq] at H;obtain ⟨rfl,rfl,rfl,rfl⟩:=H;have hnb30:=NB266_265.out;have hnc30:=NB265_266.out;have hcz31_0:wc.cell? ⟨gb266,0,none⟩=some (.bool x267000_2):=q_ BK266 0 rfl;have hcz31_1:wc.cell? ⟨gb266,1,none⟩=some (.string t271):=q_ BK266 1 rfl;have hcz31_2:wc.cell? ⟨gb266,2,none⟩=some (.int .i64 x267002_13):=q_ BK266 2 rfl;have hfz31_0:=blk_frozen BK266.out 0;have hfz31_1:=blk_frozen BK266.out 1;have hfz31_2:=blk_frozen BK266.out 2
        go_wp2_with (first|((with_reducible refine gate_callee (f:=57) rfl ?_);refine goesL_ (some 49) rfl rfl Tryz.func57 (by kernel_rfl) rfl #[.agg #[.bool x267000_2,.string t271,.int .i64 x267002_13]] rfl (by (try simp only [List.map_toArray,List.map_cons,List.map_nil]);first|done|rfl|(simp only [List.length_drop,List.length_take];rfl)) ?_;(with_reducible refine (impl_IsOrigin.calls kj13 x267000_2 t271 x267002_13 true _ A26.out).mono ?_);rintro e w32 ⟨rfl,hb⟩;refine ⟨_,rfl,?_⟩;have n0_:=bb_ BK265 hb;have n1_:=bb_ BK266 hb;have n2_:=bs_ HB hb;clear BK265;clear BK266;clear HB;have BK265:=n0_;have BK266:=n1_;have HB:=n2_;clear n0_ n1_ n2_;(try clear hb);(try clear hb2);(try clear hk);(try clear hi);have hcz33_0:w32.cell? ⟨gb266,0,none⟩=some (.bool x267000_2):=q_ BK266 0 rfl;have hcz33_1:w32.cell? ⟨gb266,1,none⟩=some (.string t271):=q_ BK266 1 rfl;have hcz33_2:w32.cell? ⟨gb266,2,none⟩=some (.int .i64 x267002_13):=q_ BK266 2 rfl;have hfz33_0:=blk_frozen BK266.out 0;have hfz33_1:=blk_frozen BK266.out 1;have hfz33_2:=blk_frozen BK266.out 2)|(go_at_call 26;(with_reducible refine (impl_FormatOrigin.calls (ht_:=Man.tab_on HT.out (xe_ HB)) kj13 x267000_2 t271 x267002_13 t277 _ A28.out).mono ?_);rintro e w34 ⟨rfl,hb⟩;have n0_:=bb_ BK265 hb;have n1_:=bb_ BK266 hb;have n2_:=bs_ HB hb;clear BK265;clear BK266;clear HB;have BK265:=n0_;have BK266:=n1_;have HB:=n2_;clear n0_ n1_ n2_;(try clear hb);(try clear hb2);(try clear hk);(try clear hi);have hcz35_0:w34.cell? ⟨gb266,0,none⟩=some (.bool x267000_2):=q_ BK266 0 rfl;have hcz35_1:w34.cell? ⟨gb266,1,none⟩=some (.string t271):=q_ BK266 1 rfl;have hcz35_2:w34.cell? ⟨gb266,2,none⟩=some (.int .i64 x267002_13):=q_ BK266 2 rfl;have hfz35_0:=blk_frozen BK266.out 0;have hfz35_1:=blk_frozen BK266.out 1;have hfz35_2:=blk_frozen BK266.out 2;have hcz36_0:w34.cell? ⟨gb265,0,none⟩=some (.bool x266000_13):=q_ BK265 0 rfl;have hcz36_1:w34.cell? ⟨gb265,1,none⟩=some (.string x266001_13):=q_ BK265 1 rfl;have hcz36_2:w34.cell? ⟨gb265,2,none⟩=some (.int .i64 x266002_13):=q_ BK265 2 rfl;have hfz36_0:=blk_frozen BK265.out 0;have hfz36_1:=blk_frozen BK265.out 1;have hfz36_2:=blk_frozen BK265.out 2))
        refine bodyPost_ret (results_ct rfl _ _ gb265 28 #[.bool x267000_2,.string t271,.int .i64 x267002_13] (0,0) _ rfl (by (with_reducible repeat (first|refine blk_drewN ?_ _|refine blk_drew ?_|refine blk_alloc ?_ _));refine blk_put (cs:=#[.bool x267000_2,.string t271,.int .i64 x266002_13]) ?_ 2 _ rfl;(with_reducible repeat (first|refine blk_drewN ?_ _|refine blk_drew ?_|refine blk_alloc ?_ _));refine blk_put (cs:=#[.bool x267000_2,.string x266001_13,.int .i64 x266002_13]) ?_ 1 _ rfl;(with_reducible repeat (first|refine blk_drewN ?_ _|refine blk_drew ?_|refine blk_alloc ?_ _));refine blk_put (cs:=#[.bool x266000_13,.string x266001_13,.int .i64 x266002_13]) ?_ 0 _ rfl;(with_reducible repeat (first|refine blk_drewN ?_ _|refine blk_drew ?_|refine blk_alloc ?_ _));exact BK265.out) Tryz.underlying28 rfl (by kernel_rfl)) rfl ?_;exact ⟨by first|rfl|(simp [errW_none,errW_some] <;> rfl)|(simp [*,errW_none,errW_some] <;> rfl),by repeat (first|(with_reducible first|exact HB.out|apply below_alloc|apply pw_below_drewN|apply below_drew1|refine below_set ?_ GE265.out|refine below_set ?_ GE266.out)|exact HB.out)⟩
       ·rw [if_neg c29] at H
        have c29b0:(t277.toList == a0.toList)=false:=beq_eq_false_iff_ne.mpr c29;have c29b1:(t277.toList != a0.toList)=true:=bne_iff_ne.mpr c29;simp only [Option.some.injEq,Prod.mk.injEq] at H;obtain ⟨rfl,rfl,rfl,rfl⟩:=H;have hnb37:=NB266_265.out;have hnc37:=NB265_266.out;have hcz38_0:wc.cell? ⟨gb266,0,none⟩=some (.bool x267000_2):=q_ BK266 0 rfl;have hcz38_1:wc.cell? ⟨gb266,1,none⟩=some (.string t271):=q_ BK266 1 rfl;have hcz38_2:wc.cell? ⟨gb266,2,none⟩=some (.int .i64 x267002_13):=q_ BK266 2 rfl;have hfz38_0:=blk_frozen BK266.out 0;have hfz38_1:=blk_frozen BK266.out 1;have hfz38_2:=blk_frozen BK266.out 2
        go_wp2_with (first|((with_reducible refine gate_callee (f:=57) rfl ?_);refine goesL_ (some 49) rfl rfl Tryz.func57 (by kernel_rfl) rfl #[.agg #[.bool x267000_2,.string t271,.int .i64 x267002_13]] rfl (by (try simp only [List.map_toArray,List.map_cons,List.map_nil]);first|done|rfl|(simp only [List.length_drop,List.length_take];rfl)) ?_;(with_reducible refine (impl_IsOrigin.calls kj13 x267000_2 t271 x267002_13 true _ A26.out).mono ?_);rintro e w39 ⟨rfl,hb⟩;refine ⟨_,rfl,?_⟩;have n0_:=bb_ BK265 hb;have n1_:=bb_ BK266 hb;have n2_:=bs_ HB hb;clear BK265;clear BK266;clear HB;have BK265:=n0_;have BK266:=n1_;have HB:=n2_;clear n0_ n1_ n2_;(try clear hb);(try clear hb2);(try clear hk);(try clear hi);have hcz40_0:w39.cell? ⟨gb266,0,none⟩=some (.bool x267000_2):=q_ BK266 0 rfl;have hcz40_1:w39.cell? ⟨gb266,1,none⟩=some (.string t271):=q_ BK266 1 rfl;have hcz40_2:w39.cell? ⟨gb266,2,none⟩=some (.int .i64 x267002_13):=q_ BK266 2 rfl;have hfz40_0:=blk_frozen BK266.out 0;have hfz40_1:=blk_frozen BK266.out 1;have hfz40_2:=blk_frozen BK266.out 2)|(go_at_call 26;(with_reducible refine (impl_FormatOrigin.calls (ht_:=Man.tab_on HT.out (xe_ HB)) kj13 x267000_2 t271 x267002_13 t277 _ A28.out).mono ?_);rintro e w41 ⟨rfl,hb⟩;have n0_:=bb_ BK265 hb;have n1_:=bb_ BK266 hb;have n2_:=bs_ HB hb;clear BK265;clear BK266;clear HB;have BK265:=n0_;have BK266:=n1_;have HB:=n2_;clear n0_ n1_ n2_;(try clear hb);(try clear hb2);(try clear hk);(try clear hi);have hcz42_0:w41.cell? ⟨gb265,0,none⟩=some (.bool x266000_13):=q_ BK265 0 rfl;have hcz42_1:w41.cell? ⟨gb265,1,none⟩=some (.string x266001_13):=q_ BK265 1 rfl;have hcz42_2:w41.cell? ⟨gb265,2,none⟩=some (.int .i64 x266002_13):=q_ BK265 2 rfl;have hfz42_0:=blk_frozen BK265.out 0;have hfz42_1:=blk_frozen BK265.out 1;have hfz42_2:=blk_frozen BK265.out 2))
        refine bodyPost_ret (results_ct rfl _ _ gb265 28 #[.bool false,.string (⟨#[]⟩:ByteArray),.int .i64 0] (0,0) _ rfl (by (with_reducible repeat (first|refine blk_drewN ?_ _|refine blk_drew ?_|refine blk_alloc ?_ _));refine blk_put (cs:=#[.bool false,.string (⟨#[]⟩:ByteArray),.int .i64 x266002_13]) ?_ 2 _ rfl;(with_reducible repeat (first|refine blk_drewN ?_ _|refine blk_drew ?_|refine blk_alloc ?_ _));refine blk_put (cs:=#[.bool false,.string x266001_13,.int .i64 x266002_13]) ?_ 1 _ rfl;(with_reducible repeat (first|refine blk_drewN ?_ _|refine blk_drew ?_|refine blk_alloc ?_ _));refine blk_put (cs:=#[.bool x266000_13,.string x266001_13,.int .i64 x266002_13]) ?_ 0 _ rfl;(with_reducible repeat (first|refine blk_drewN ?_ _|refine blk_drew ?_|refine blk_alloc ?_ _));exact BK265.out) Tryz.underlying28 rfl (by kernel_rfl)) rfl ?_;exact ⟨by first|rfl|(simp [errW_none,errW_some] <;> rfl)|(simp [*,errW_none,errW_some] <;> rfl),by repeat (first|(with_reducible first|exact HB.out|apply below_alloc|apply pw_below_drewN|apply below_drew1|refine below_set ?_ GE265.out|refine below_set ?_ GE266.out)|exact HB.out)⟩
      ·replace c27:=Bool.eq_false_iff.mpr c27;subst c27
       rw [if_neg (show ¬ (false=true) by decide)] at H
       simp only [Option.some.injEq,Prod.mk.injEq] at H
       obtain ⟨rfl,rfl,rfl,rfl⟩:=H;have hnb43:=NB266_265.out;have hnc43:=NB265_266.out;have hcz44_0:wc.cell? ⟨gb266,0,none⟩=some (.bool x267000_2):=q_ BK266 0 rfl;have hcz44_1:wc.cell? ⟨gb266,1,none⟩=some (.string t271):=q_ BK266 1 rfl;have hcz44_2:wc.cell? ⟨gb266,2,none⟩=some (.int .i64 x267002_13):=q_ BK266 2 rfl;have hfz44_0:=blk_frozen BK266.out 0;have hfz44_1:=blk_frozen BK266.out 1;have hfz44_2:=blk_frozen BK266.out 2
       go_wp2_with (first|((with_reducible refine gate_callee (f:=57) rfl ?_);refine goesL_ (some 49) rfl rfl Tryz.func57 (by kernel_rfl) rfl #[.agg #[.bool x267000_2,.string t271,.int .i64 x267002_13]] rfl (by (try simp only [List.map_toArray,List.map_cons,List.map_nil]);first|done|rfl|(simp only [List.length_drop,List.length_take];rfl)) ?_;(with_reducible refine (impl_IsOrigin.calls kj13 x267000_2 t271 x267002_13 false _ A26.out).mono ?_);rintro e w45 ⟨rfl,hb⟩;refine ⟨_,rfl,?_⟩;have n0_:=bb_ BK265 hb;have n1_:=bb_ BK266 hb;have n2_:=bs_ HB hb;clear BK265;clear BK266;clear HB;have BK265:=n0_;have BK266:=n1_;have HB:=n2_;clear n0_ n1_ n2_;(try clear hb);(try clear hb2);(try clear hk);(try clear hi);have hcz46_0:w45.cell? ⟨gb265,0,none⟩=some (.bool x266000_13):=q_ BK265 0 rfl;have hcz46_1:w45.cell? ⟨gb265,1,none⟩=some (.string x266001_13):=q_ BK265 1 rfl;have hcz46_2:w45.cell? ⟨gb265,2,none⟩=some (.int .i64 x266002_13):=q_ BK265 2 rfl;have hfz46_0:=blk_frozen BK265.out 0;have hfz46_1:=blk_frozen BK265.out 1;have hfz46_2:=blk_frozen BK265.out 2))
       refine bodyPost_ret (results_ct rfl _ _ gb265 28 #[.bool false,.string (⟨#[]⟩:ByteArray),.int .i64 0] (0,0) _ rfl (by (with_reducible repeat (first|refine blk_drewN ?_ _|refine blk_drew ?_|refine blk_alloc ?_ _));refine blk_put (cs:=#[.bool false,.string (⟨#[]⟩:ByteArray),.int .i64 x266002_13]) ?_ 2 _ rfl;(with_reducible repeat (first|refine blk_drewN ?_ _|refine blk_drew ?_|refine blk_alloc ?_ _));refine blk_put (cs:=#[.bool false,.string x266001_13,.int .i64 x266002_13]) ?_ 1 _ rfl;(with_reducible repeat (first|refine blk_drewN ?_ _|refine blk_drew ?_|refine blk_alloc ?_ _));refine blk_put (cs:=#[.bool x266000_13,.string x266001_13,.int .i64 x266002_13]) ?_ 0 _ rfl;(with_reducible repeat (first|refine blk_drewN ?_ _|refine blk_drew ?_|refine blk_alloc ?_ _));exact BK265.out) Tryz.underlying28 rfl (by kernel_rfl)) rfl ?_;exact ⟨by first|rfl|(simp [errW_none,errW_some] <;> rfl)|(simp [*,errW_none,errW_some] <;> rfl),by repeat (first|(with_reducible first|exact HB.out|apply below_alloc|apply pw_below_drewN|apply below_drew1|refine below_set ?_ GE265.out|refine below_set ?_ GE266.out)|exact HB.out)⟩
   ·replace c12:=Bool.eq_false_iff.mpr c12;subst c12
    rw [if_neg (show ¬ (false=true) by decide)] at H
    simp only [Option.some.injEq,Prod.mk.injEq] at H
    obtain ⟨rfl,rfl,rfl,rfl⟩:=H;have hnb47:=NB265_266.out;have hnc47:=NB266_265.out;have hcz48_0:wc.cell? ⟨gb265,0,none⟩=some (.bool false):=q_ BK265 0 rfl;have hcz48_1:wc.cell? ⟨gb265,1,none⟩=some (.string (⟨#[]⟩:ByteArray)):=q_ BK265 1 rfl;have hcz48_2:wc.cell? ⟨gb265,2,none⟩=some (.int .i64 0):=q_ BK265 2 rfl;have hfz48_0:=blk_frozen BK265.out 0;have hfz48_1:=blk_frozen BK265.out 1;have hfz48_2:=blk_frozen BK265.out 2
    go_wp2
    refine bodyPost_ret (results_ct rfl _ _ gb265 28 #[.bool false,.string (⟨#[]⟩:ByteArray),.int .i64 0] (0,0) _ rfl (by (with_reducible repeat (first|refine blk_drewN ?_ _|refine blk_drew ?_|refine blk_alloc ?_ _));refine blk_put (cs:=#[.bool false,.string (⟨#[]⟩:ByteArray),.int .i64 0]) ?_ 2 _ rfl;(with_reducible repeat (first|refine blk_drewN ?_ _|refine blk_drew ?_|refine blk_alloc ?_ _));refine blk_put (cs:=#[.bool false,.string (⟨#[]⟩:ByteArray),.int .i64 0]) ?_ 1 _ rfl;(with_reducible repeat (first|refine blk_drewN ?_ _|refine blk_drew ?_|refine blk_alloc ?_ _));refine blk_put (cs:=#[.bool false,.string (⟨#[]⟩:ByteArray),.int .i64 0]) ?_ 0 _ rfl;(with_reducible repeat (first|refine blk_drewN ?_ _|refine blk_drew ?_|refine blk_alloc ?_ _));exact BK265.out) Tryz.underlying28 rfl (by kernel_rfl)) rfl ?_;exact ⟨by first|rfl|(simp [errW_none,errW_some] <;> rfl)|(simp [*,errW_none,errW_some] <;> rfl),by repeat (first|(with_reducible first|exact HB.out|apply below_alloc|apply pw_below_drewN|apply below_drew1|refine below_set ?_ GE265.out|refine below_set ?_ GE266.out)|exact HB.out)⟩

/-! ### impl_power: function 102 -/
def impl_power.l0:Nat → Int → Int → Int → Int → Option (Int)
|0,_,_,_,_ => none
|k + 1,x0,x1,x2,x7 => if x1 > 0 then (if (Int.tmod x1 2)=1 then (if x2=0 then (none) else (impl_power.l0 k (Int.tmod (wrap64 (x0 * x0)) x2) (wrap64 (Int.tdiv x1 2)) x2 (Int.tmod (wrap64 (x7 * x0)) x2))) else (if x2=0 then (none) else (impl_power.l0 k (Int.tmod (wrap64 (x0 * x0)) x2) (wrap64 (Int.tdiv x1 2)) x2 x7))) else (some x7)
def impl_power.f (k:Nat) (a0:Int) (a1:Int) (a2:Int):Option (Int):=if a2=0 then (none) else (impl_power.l0 k (Int.tmod a0 a2) a1 a2 ((1:Int) % a2))
theorem impl_power.mono_l:∀ k,(∀ y0 y1 y2 y3,LeO (impl_power.l0 k y0 y1 y2 y3) (impl_power.l0 (k + 1) y0 y1 y2 y3))
|0 => fun _ _ _ _ r h => by simp [impl_power.l0] at h
|k + 1 => by
  have ih0:=impl_power.mono_l k
  ·intro y0 y1 y2 y3
   unfold impl_power.l0
   repeat' first
  |(with_reducible exact ih0 _ _ _ _)
  |(with_reducible exact LeO.refl _)
  |(with_reducible exact LeO.none _)
  |(with_reducible refine LeO.ite ?_ ?_)
  |(with_reducible refine LeO.bind ?_ (fun _ => ?_))
  |exact ih0 _ _ _ _
  |exact LeO.none _
  |refine LeO.ite ?_ ?_
  |refine LeO.bind ?_ (fun _ => ?_)
theorem impl_power.mono:∀ a0 a1 a2 k,LeO (impl_power.f k a0 a1 a2) (impl_power.f (k + 1) a0 a1 a2):=by
 intro a0 a1 a2 k;have ih0:=impl_power.mono_l k
 unfold impl_power.f
 repeat' first
  |(with_reducible exact ih0 _ _ _ _)
  |(with_reducible exact LeO.refl _)
  |(with_reducible exact LeO.none _)
  |(with_reducible refine LeO.ite ?_ ?_)
  |(with_reducible refine LeO.bind ?_ (fun _ => ?_))
  |exact ih0 _ _ _ _
  |exact LeO.none _
  |refine LeO.ite ?_ ?_
  |refine LeO.bind ?_ (fun _ => ?_)
set_option maxHeartbeats 8000000 in
set_option maxRecDepth 100000 in
theorem impl_power.calls (k:Nat) (a0:Int) (a1:Int) (a2:Int) (r:Int) (w:World) (h:impl_power.f k a0 a1 a2=some r) :
  Calls Tryz.prog 102 #[.int .i64 a0,.int .i64 a1,.int .i64 a2] w fun e w' => e=.returned (.int .i64 r)∧Drawn0 w w':=by
 have H:(if a2=0 then (none) else (impl_power.l0 k (Int.tmod a0 a2) a1 a2 ((1:Int) % a2)))=some r:=h;clear h
 by_cases c4:a2=0
 ·rw [if_pos c4] at H
  exact absurd H (by simp)
 ·rw [if_neg c4] at H
  have c4b0:(a2 == 0)=false:=beq_eq_false_iff_ne.mpr c4;have c4b1:(a2 != 0)=true:=bne_iff_ne.mpr c4;have H':=Am7_ H;clear H
  go_enter Tryz.func102,Tryz.ntmps102
  go_wp2
  go_loopg [0,1,7] k (fun kq v0 v1 v7 w' => ∃ (x0_1:Int) (x1_1:Int) (x7_1:Int),v0=.int .i64 x0_1∧v1=.int .i64 x1_1∧v7=.int .i64 x7_1∧Aside0 (impl_power.l0 kq x0_1 x1_1 a2 x7_1=some r)∧Aside0 (kq ≤ k)∧Drawn0 w w')
  case atStart => exact ⟨(Int.tmod a0 a2),(a1),((1:Int) % a2),(by first|rfl|(simp;done)|(simp [*];done)),(by first|rfl|(simp;done)|(simp [*];done)),(by first|rfl|(simp;done)|(simp [*];done)),H',⟨Nat.le_refl _⟩,by repeat (first|exact Drawn0.refl _|apply Drawn0.step)⟩
  case round =>
   clear H'
   try clear c1
   try clear p2
   try clear c4
   try clear c4b0
   try clear c4b1
   obtain ⟨x0_1,x1_1,x7_1,rfl,rfl,rfl,HA,HK1,⟨m1,rfl⟩⟩:=hrel
   cases gk with
  |zero => exact absurd HA.out (by simp [impl_power.l0])
  |succ k1 =>
    have H:=HA.out;clear HA;simp only [impl_power.l0] at H
    by_cases c5:x1_1 > 0
    ·rw [if_pos c5] at H
     have c5b0:decide (0 < x1_1)=true:=decide_eq_true c5;clear c5
     by_cases c6:(Int.tmod x1_1 2)=1
     ·rw [if_pos c6] at H
      have c6b0:((Int.tmod x1_1 2) == 1)=true:=beq_iff_eq.mpr c6;have c6b1:((Int.tmod x1_1 2) != 1)=false:=bne_eq_false_iff_eq.mpr c6;clear c6
      by_cases c7:a2=0
      ·rw [if_pos c7] at H
       exact absurd H (by simp)
      ·rw [if_neg c7] at H
       have c7b0:(a2 == 0)=false:=beq_eq_false_iff_ne.mpr c7;have c7b1:(a2 != 0)=true:=bne_iff_ne.mpr c7;have H':=Am7_ H;clear H
       go_wp2
       go_roundg k1
       case measure => have:=HK1.out;omega
       case rel => exact ⟨(Int.tmod (wrap64 (x0_1 * x0_1)) a2),(wrap64 (Int.tdiv x1_1 2)),(Int.tmod (wrap64 (x7_1 * x0_1)) a2),(by first|rfl|(simp;done)|(simp [*];done)),(by first|rfl|(simp;done)|(simp [*];done)),(by first|rfl|(simp;done)|(simp [*];done)),H',⟨by have:=HK1.out;omega⟩,by repeat (first|exact Drawn0.refl _|apply Drawn0.step)⟩
     ·rw [if_neg c6] at H
      have c6b0:((Int.tmod x1_1 2) == 1)=false:=beq_eq_false_iff_ne.mpr c6;have c6b1:((Int.tmod x1_1 2) != 1)=true:=bne_iff_ne.mpr c6
      by_cases c8:a2=0
      ·rw [if_pos c8] at H
       exact absurd H (by simp)
      ·rw [if_neg c8] at H
       have c8b0:(a2 == 0)=false:=beq_eq_false_iff_ne.mpr c8;have c8b1:(a2 != 0)=true:=bne_iff_ne.mpr c8;have H':=Am7_ H;clear H
       go_wp2
       go_roundg k1
       case measure => have:=HK1.out;omega
       case rel => exact ⟨(Int.tmod (wrap64 (x0_1 * x0_1)) a2),(wrap64 (Int.tdiv x1_1 2)),(x7_1),(by first|rfl|(simp;done)|(simp [*];done)),(by first|rfl|(simp;done)|(simp [*];done)),(by first|rfl|(simp;done)|(simp [*];done)),H',⟨by have:=HK1.out;omega⟩,by repeat (first|exact Drawn0.refl _|apply Drawn0.step)⟩
    ·rw [if_neg c5] at H
     have c5b0:decide (0 < x1_1)=false:=decide_eq_false c5;clear c5;obtain rfl:=Option.some.inj H
     go_wp2
     go_ret
     exact ⟨by first|rfl|(simp;done)|(simp [*];done),by repeat (first|exact Drawn0.refl _|apply Drawn0.step)⟩

/-! ### impl_PrivateKey: function 72 -/
def impl_PrivateKey.f (k:Nat) (a0:Int):Option (Int):=(impl_IsValidKey.f a0).bind fun t278 => (if t278=true then ((impl_power.f k 48271 2147483645 2147483647).bind fun t279 => (some (Int.tmod (wrap64 (a0 * t279)) 2147483647))) else (some 0))
theorem impl_PrivateKey.mono:∀ a0 k,LeO (impl_PrivateKey.f k a0) (impl_PrivateKey.f (k + 1) a0):=by
 intro a0 k
 unfold impl_PrivateKey.f
 repeat' first
  |(with_reducible exact impl_power.mono _ _ _ _)
  |(with_reducible exact LeO.refl _)
  |(with_reducible exact LeO.none _)
  |(with_reducible refine LeO.ite ?_ ?_)
  |(with_reducible refine LeO.bind ?_ (fun _ => ?_))
  |exact impl_power.mono _ _ _ _
  |exact LeO.none _
  |refine LeO.ite ?_ ?_
  |refine LeO.bind ?_ (fun _ => ?_)
set_option maxHeartbeats 8000000 in
set_option maxRecDepth 100000 in
theorem impl_PrivateKey.calls (k:Nat) (a0:Int) (r:Int) (w:World) (h:impl_PrivateKey.f k a0=some r) :
  Calls Tryz.prog 72 #[.int .i64 a0] w fun e w' => e=.returned (.int .i64 r)∧Drawn0 w w':=by
 have H:=h;unfold impl_PrivateKey.f at H;clear h;replace H:=Option.bind_eq_some_iff.mp H;obtain ⟨t278,A20,H⟩:=H
 try dsimp only at H
 have A2:=Am7_ A20;clear A20
 by_cases c3:t278=true
 ·subst c3
  rw [if_pos rfl] at H
  replace H:=Option.bind_eq_some_iff.mp H;obtain ⟨t279,A40,H⟩:=H
  try dsimp only at H
  have A4:=Am7_ A40;clear A40;obtain rfl:=Option.some.inj H
  go_enter Tryz.func72,Tryz.ntmps72
  go_wp2_with (first|((with_reducible refine gate_callee (f:=100) rfl ?_);refine goesL_ (some 4) rfl rfl Tryz.func100 (by kernel_rfl) rfl #[.int .i64 a0] rfl (by (try simp only [List.map_toArray,List.map_cons,List.map_nil]);first|done|rfl|(simp only [List.length_drop,List.length_take];rfl)) ?_;(with_reducible refine (impl_IsValidKey.calls a0 true _ A2.out).mono ?_);rintro e w' ⟨rfl,⟨nd,rfl⟩⟩;refine ⟨_,rfl,?_⟩)|((with_reducible refine gate_callee (f:=102) rfl ?_);refine goesL_ (some 7) rfl rfl Tryz.func102 (by kernel_rfl) rfl #[.int .i64 48271,.int .i64 2147483645,.int .i64 2147483647] rfl (by (try simp only [List.map_toArray,List.map_cons,List.map_nil]);first|done|rfl|(simp only [List.length_drop,List.length_take];rfl)) ?_;(with_reducible refine (impl_power.calls k 48271 2147483645 2147483647 t279 _ A4.out).mono ?_);rintro e w' ⟨rfl,⟨nd,rfl⟩⟩;refine ⟨_,rfl,?_⟩))
  go_ret
  exact ⟨by first|rfl|(simp;done)|(simp [*];done),by repeat (first|exact Drawn0.refl _|apply Drawn0.step)⟩
 ·replace c3:=Bool.eq_false_iff.mpr c3;subst c3
  rw [if_neg (show ¬ (false=true) by decide)] at H
  obtain rfl:=Option.some.inj H
  go_enter Tryz.func72,Tryz.ntmps72
  go_wp2_with (first|((with_reducible refine gate_callee (f:=100) rfl ?_);refine goesL_ (some 4) rfl rfl Tryz.func100 (by kernel_rfl) rfl #[.int .i64 a0] rfl (by (try simp only [List.map_toArray,List.map_cons,List.map_nil]);first|done|rfl|(simp only [List.length_drop,List.length_take];rfl)) ?_;(with_reducible refine (impl_IsValidKey.calls a0 false _ A2.out).mono ?_);rintro e w' ⟨rfl,⟨nd,rfl⟩⟩;refine ⟨_,rfl,?_⟩))
  go_ret
  exact ⟨by first|rfl|(simp;done)|(simp [*];done),by repeat (first|exact Drawn0.refl _|apply Drawn0.step)⟩

/-! ### impl_VerifySignature: function 41 -/
def impl_VerifySignature.f (k:Nat) (a0:Int) (l1:List Int) (a2:Int):Option (Bool):=(impl_PrivateKey.f k a0).bind fun t280 => (if t280=0 then (some false) else ((impl_SignMessage.f k t280 l1).bind fun t281 => (some (t281 == a2))))
theorem impl_VerifySignature.mono:∀ a0 a1 a2 k,LeO (impl_VerifySignature.f k a0 a1 a2) (impl_VerifySignature.f (k + 1) a0 a1 a2):=by
 intro a0 a1 a2 k
 unfold impl_VerifySignature.f
 repeat' first
  |(with_reducible exact impl_PrivateKey.mono _ _)
  |(with_reducible exact impl_SignMessage.mono _ _ _)
  |(with_reducible exact LeO.refl _)
  |(with_reducible exact LeO.none _)
  |(with_reducible refine LeO.ite ?_ ?_)
  |(with_reducible refine LeO.bind ?_ (fun _ => ?_))
  |exact impl_PrivateKey.mono _ _
  |exact impl_SignMessage.mono _ _ _
  |exact LeO.none _
  |refine LeO.ite ?_ ?_
  |refine LeO.bind ?_ (fun _ => ?_)
set_option maxHeartbeats 8000000 in
set_option maxRecDepth 100000 in
theorem impl_VerifySignature.calls (k:Nat) (a0:Int) (A1:Option Addr) (c1:Nat) (l1:List Int) (a2:Int) (r:Bool) (w:World) (hr1:Kd.C (Kd.int .i64) w A1 l1.length l1) (hc1:l1.length ≤ c1) (h:impl_VerifySignature.f k a0 l1 a2=some r) :
  Calls Tryz.prog 41 #[.int .i64 a0,.slice A1 l1.length c1,.int .i64 a2] w fun e w' => e=.returned (.bool r)∧Below w.heap.size w w':=by
 have HR1:=Am7_ hr1;have HC1:=Am7_ hc1;clear hr1 hc1;have HB:=Am7_ (Below.refl w.heap.size w);have H:=h;unfold impl_VerifySignature.f at H;clear h;replace H:=Option.bind_eq_some_iff.mp H;obtain ⟨t280,A40,H⟩:=H
 try dsimp only at H
 have A4:=Am7_ A40;clear A40
 by_cases c5:t280=0
 ·rw [if_pos c5] at H
  have c5b0:(t280 == 0)=true:=beq_iff_eq.mpr c5;have c5b1:(t280 != 0)=false:=bne_eq_false_iff_eq.mpr c5;clear c5;obtain rfl:=Option.some.inj H
  go_enter Tryz.func41,Tryz.ntmps41
  go_wp2_with (first|((with_reducible refine gate_callee (f:=72) rfl ?_);refine goesL_ (some 9) rfl rfl Tryz.func72 (by kernel_rfl) rfl #[.int .i64 a0] rfl (by (try simp only [List.map_toArray,List.map_cons,List.map_nil]);first|done|rfl|(simp only [List.length_drop,List.length_take];rfl)) ?_;(with_reducible refine (impl_PrivateKey.calls k a0 t280 _ A4.out).mono ?_);rintro e w' ⟨rfl,⟨nd,rfl⟩⟩;refine ⟨_,rfl,?_⟩))
  go_ret
  exact ⟨by first|rfl|(simp [errW_none,errW_some] <;> rfl)|(simp [*,errW_none,errW_some] <;> rfl),by repeat (first|(with_reducible first|exact HB.out|apply below_alloc|apply pw_below_drewN|apply below_drew1)|exact HB.out)⟩
 ·rw [if_neg c5] at H
  have c5b0:(t280 == 0)=false:=beq_eq_false_iff_ne.mpr c5;have c5b1:(t280 != 0)=true:=bne_iff_ne.mpr c5;replace H:=Option.bind_eq_some_iff.mp H;obtain ⟨t281,A60,H⟩:=H
  try dsimp only at H
  have A6:=Am7_ A60;clear A60;obtain rfl:=Option.some.inj H
  go_enter Tryz.func41,Tryz.ntmps41
  go_wp2_with (first|((with_reducible refine gate_callee (f:=72) rfl ?_);refine goesL_ (some 9) rfl rfl Tryz.func72 (by kernel_rfl) rfl #[.int .i64 a0] rfl (by (try simp only [List.map_toArray,List.map_cons,List.map_nil]);first|done|rfl|(simp only [List.length_drop,List.length_take];rfl)) ?_;(with_reducible refine (impl_PrivateKey.calls k a0 t280 _ A4.out).mono ?_);rintro e w' ⟨rfl,⟨nd,rfl⟩⟩;refine ⟨_,rfl,?_⟩)|(go_at_call 69;(with_reducible refine (impl_SignMessage.calls k t280 (fun k_ => k_ < w.heap.size) _ _ l1 t281 _ ?side1 A6.out).mono ?_);(case side1 => exact Kd.V_mk HC1.out (Kd.F_below (Kd.C_F (Kd.heap_int .i64) HR1.out) (xe_ HB)));rintro e w7 ⟨rfl,hb⟩;have n0_:=bs_ HB hb;clear HB;have HB:=n0_;clear n0_;(try clear hb);(try clear hb2);(try clear hk);(try clear hi)))
  go_ret
  exact ⟨by first|rfl|(simp [errW_none,errW_some] <;> rfl)|(simp [*,errW_none,errW_some] <;> rfl),by repeat (first|(with_reducible first|exact HB.out|apply below_alloc|apply pw_below_drewN|apply below_drew1)|exact HB.out)⟩

end Go.Proofs.YtogcoedmagoogaaGreatDoor.PFnAssertions
