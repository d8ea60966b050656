/- Functions and contracts of a law's callees, written by a program of this session (a changed print): each contract says that the machine's call answers what the plain function says. Conditions: the plain function's own answer. -/
import Derived.Test.YtogcoedmagoogaaDoorZPFnExactMakeAssertionx0
namespace Go.Proofs.YtogcoedmagoogaaDoor.PFnExactMakeAssertion
open Go.RowKit Go.Proofs.YtogcoedmagoogaaDoorW.PrintWords Go.Proofs.YtogcoedmagoogaaDoorW.PrintLast Go.Proofs.YtogcoedmagoogaaDoorW.PrintMore
attribute [local go_sem] max2_int min2_int max_two min_two max_three min_three max_four min_four   -- for this text's walks alone
set_option linter.unusedVariables false
set_option linter.unusedSimpArgs false
abbrev Am1_ {p : Prop} (h : p) : Aside0 p := Aside0.mk h

namespace Y1
class Ex_ (w W:World):Prop where
 k:∀ {g:Nat} {o:Obj},w.heap[g]?=some o → W.heap[g]?=some o
 e:∀ {v:World},Below v.heap.size v w → Below v.heap.size v W
instance (priority:=low) Ex_.rf (w:World):Ex_ w w:=⟨fun h => h,fun h => h⟩
instance Ex_.dn {w W:World} [x:Ex_ w W] (n:Nat):Ex_ w (W.drewN n):=⟨fun h => blk_drewN (x.k h) n,fun h => pw_below_drewN (x.e h) n⟩
instance Ex_.dr {w W:World} [x:Ex_ w W]:Ex_ w W.drew:=⟨fun h => blk_drew (x.k h),fun h => below_drew1 (x.e h)⟩
instance Ex_.al {w W:World} [x:Ex_ w W] (o:Obj):Ex_ w (W.alloc o):=⟨fun h => blk_alloc (x.k h) o,fun h => below_alloc (x.e h) o⟩
theorem xk_ {w W:World} {g:Nat} {o:Obj} (h:Aside0 (w.heap[g]?=some o)) [x:Ex_ w W]:W.heap[g]?=some o:=x.k h.out
theorem ne1_ {w W:World} {g g':Nat} {o:Obj} (hg:g'=W.heap.size) (h:Aside0 (w.heap[g]?=some o)) [x:Ex_ w W]:Aside0 (g ≠ g'):=Am1_ (by rw [hg];exact Nat.ne_of_lt (blk_lt (x.k h.out)))
theorem ne2_ {w W:World} {g g':Nat} {o:Obj} (hg:g'=W.heap.size) (h:Aside0 (w.heap[g]?=some o)) [x:Ex_ w W]:Aside0 (g' ≠ g):=Am1_ (by rw [hg];exact Nat.ne_of_gt (blk_lt (x.k h.out)))
theorem gw_ {v w W:World} {g':Nat} (hg:g'=W.heap.size) (h:Aside0 (Below v.heap.size v w)) [x:Ex_ w W]:Aside0 (v.heap.size ≤ g'):=Am1_ (by rw [hg];exact below_size (x.e h.out))
theorem bb_ {w W W':World} {g:Nat} {o:Obj} (h:Aside0 (w.heap[g]?=some o)) (hb:Below W.heap.size W W') [x:Ex_ w W]:Aside0 (W'.heap[g]?=some o):=Am1_ (blk_below (x.k h.out) hb)
theorem bs_ {v w W W':World} (h:Aside0 (Below v.heap.size v w)) (hb:Below W.heap.size W W') [x:Ex_ w W]:Aside0 (Below v.heap.size v W'):=Am1_ (below_step (x.e h.out) hb)
theorem xe_ {v w W:World} (h:Aside0 (Below v.heap.size v w)) [x:Ex_ w W]:Below v.heap.size v W:=x.e h.out
end Y1
open Y1

namespace Y1
abbrev Sa_ := @List.setIfInBounds_toArray
abbrev Sb_ := @List.set_cons_zero
abbrev Sc_ := @List.set_cons_succ
theorem q_ {w W : World} {g : Nat} {t : TypeId} {cs : Array Value} (h : Aside0 (w.heap[g]? = some (.cells cs t (0, 0)))) (i : Nat) {v : Option Value} (e : cs[i]? = v) [x : Ex_ w W] : W.cell? ⟨g, i, none⟩ = v := (blk_cell (x.k h.out) i).trans e
end Y1
open Y1
/-! ### laws_szOrigin: function 7 -/
def laws_szOrigin.f (a0_0:Bool) (a0_1:ByteArray) (a0_2:Int) (a1:Int):Option (Int):=if (wrap64 (a1 - (a0_1.size:Int))) < 0 then (some (-1)) else (some (wrap64 (a1 - (a0_1.size:Int))))
set_option maxHeartbeats 8000000 in
set_option maxRecDepth 100000 in
theorem laws_szOrigin.calls (a0_0:Bool) (a0_1:ByteArray) (a0_2:Int) (a1:Int) (r:Int) (w:World) (h:laws_szOrigin.f a0_0 a0_1 a0_2 a1=some r) :
  Calls Tryd.prog 7 #[.agg #[.bool a0_0,.string a0_1,.int .i64 a0_2],.int .i64 a1] w fun e w' => e=.returned (.int .i64 r)∧Below w.heap.size w w':=by
 have hu23:=Tryd.underlying23;have HB:=Am1_ (Below.refl w.heap.size w);have H:=h;unfold laws_szOrigin.f at H;clear h
 by_cases c3:(wrap64 (a1 - (a0_1.size:Int))) < 0
 ·rw [if_pos c3] at H
  have c3b0:decide ((wrap64 (a1 - (a0_1.size:Int))) < 0)=true:=decide_eq_true c3;clear c3;obtain rfl:=Option.some.inj H
  go_enter Tryd.func7,Tryd.ntmps7
  go_wp2_with (first|((with_reducible refine gate_dst (N:=2) rfl ?_);refine box_event ?hg (N:=2) ?hd (cs:=#[.bool a0_0,.string a0_1,.int .i64 a0_2]) (t:=23) ?hr ?_;(case hd => rfl);(case hg => rfl);(case hr => first|(go_simp;done)|(go_simp;rfl));intro gb101 hg w4 hbox hb;have n0_:=bs_ HB hb;have n1_:=Am1_ (hbox);have n2_:=gw_ hg HB;have n3_:=gw_ hg HB;clear HB;have HB:=n0_;have BK101:=n1_;have GW101:=n2_;have GE101:=n3_;clear n0_ n1_ n2_ n3_;clear hb hbox hg;have hcz5_0:w4.cell? ⟨gb101,0,none⟩=some (.bool a0_0):=q_ BK101 0 rfl;have hcz5_1:w4.cell? ⟨gb101,1,none⟩=some (.string a0_1):=q_ BK101 1 rfl;have hcz5_2:w4.cell? ⟨gb101,2,none⟩=some (.int .i64 a0_2):=q_ BK101 2 rfl;have hfz5_0:=blk_frozen BK101.out 0;have hfz5_1:=blk_frozen BK101.out 1;have hfz5_2:=blk_frozen BK101.out 2))
  go_ret
  exact ⟨by first|rfl|(simp [errW_none,errW_some] <;> rfl)|(simp [*,errW_none,errW_some] <;> rfl),by repeat (first|(with_reducible first|exact HB.out|apply below_alloc|apply pw_below_drewN|apply below_drew1|refine below_set ?_ GE101.out)|exact HB.out)⟩
 ·rw [if_neg c3] at H
  have c3b0:decide ((wrap64 (a1 - (a0_1.size:Int))) < 0)=false:=decide_eq_false c3;clear c3;obtain rfl:=Option.some.inj H
  go_enter Tryd.func7,Tryd.ntmps7
  go_wp2_with (first|((with_reducible refine gate_dst (N:=2) rfl ?_);refine box_event ?hg (N:=2) ?hd (cs:=#[.bool a0_0,.string a0_1,.int .i64 a0_2]) (t:=23) ?hr ?_;(case hd => rfl);(case hg => rfl);(case hr => first|(go_simp;done)|(go_simp;rfl));intro gb101 hg w6 hbox hb;have n0_:=bs_ HB hb;have n1_:=Am1_ (hbox);have n2_:=gw_ hg HB;have n3_:=gw_ hg HB;clear HB;have HB:=n0_;have BK101:=n1_;have GW101:=n2_;have GE101:=n3_;clear n0_ n1_ n2_ n3_;clear hb hbox hg;have hcz7_0:w6.cell? ⟨gb101,0,none⟩=some (.bool a0_0):=q_ BK101 0 rfl;have hcz7_1:w6.cell? ⟨gb101,1,none⟩=some (.string a0_1):=q_ BK101 1 rfl;have hcz7_2:w6.cell? ⟨gb101,2,none⟩=some (.int .i64 a0_2):=q_ BK101 2 rfl;have hfz7_0:=blk_frozen BK101.out 0;have hfz7_1:=blk_frozen BK101.out 1;have hfz7_2:=blk_frozen BK101.out 2))
  go_ret
  exact ⟨by first|rfl|(simp [errW_none,errW_some] <;> rfl)|(simp [*,errW_none,errW_some] <;> rfl),by repeat (first|(with_reducible first|exact HB.out|apply below_alloc|apply pw_below_drewN|apply below_drew1|refine below_set ?_ GE101.out)|exact HB.out)⟩

/-! ### laws_toOrigin: function 9 -/
def laws_toOrigin.f (a0_0:Bool) (a0_1:ByteArray) (a0_2:Int):Option (Bool × ByteArray × Int):=some (a0_0,a0_1,a0_2)
set_option maxHeartbeats 8000000 in
set_option maxRecDepth 100000 in
theorem laws_toOrigin.calls (a0_0:Bool) (a0_1:ByteArray) (a0_2:Int) (r1:Bool) (r2:ByteArray) (r3:Int) (w:World) (h:laws_toOrigin.f a0_0 a0_1 a0_2=some (r1,r2,r3)) :
  Calls Tryd.prog 9 #[.agg #[.bool a0_0,.string a0_1,.int .i64 a0_2]] w fun e w' => e=.returned (.agg #[.bool r1,.string r2,.int .i64 r3])∧Below w.heap.size w w':=by
 have hu23:=Tryd.underlying23;have hu26:=Tryd.underlying26;have HB:=Am1_ (Below.refl w.heap.size w);have H:(some (a0_0,a0_1,a0_2))=some (r1,r2,r3):=h;clear h;simp only [Option.some.injEq,Prod.mk.injEq] at H;obtain ⟨rfl,rfl,rfl⟩:=H
 go_enter Tryd.func9,Tryd.ntmps9
 go_wp2_with (first|((with_reducible refine gate_dst (N:=1) rfl ?_);refine box_event ?hg (N:=1) ?hd (cs:=#[.bool a0_0,.string a0_1,.int .i64 a0_2]) (t:=23) ?hr ?_;(case hd => rfl);(case hg => rfl);(case hr => first|(go_simp;done)|(go_simp;rfl));intro gb102 hg w2 hbox hb;have n0_:=bs_ HB hb;have n1_:=Am1_ (hbox);have n2_:=gw_ hg HB;have n3_:=gw_ hg HB;clear HB;have HB:=n0_;have BK102:=n1_;have GW102:=n2_;have GE102:=n3_;clear n0_ n1_ n2_ n3_;clear hb hbox hg)|((with_reducible refine gate_dst (N:=2) rfl ?_);refine box_event ?hg (N:=2) ?hd (cs:=#[.bool false,.string (⟨#[]⟩:ByteArray),.int .i64 0]) (t:=26) ?hr ?_;(case hd => rfl);(case hg => rfl);(case hr => first|(go_simp;done)|(go_simp;rfl));intro gb103 hg w3 hbox hb;have n0_:=bb_ BK102 hb;have n1_:=bs_ HB hb;have n2_:=Am1_ (hbox);have n3_:=gw_ hg HB;have n4_:=gw_ hg HB;have n5_:=ne1_ hg BK102;have n6_:=ne2_ hg BK102;clear BK102;clear HB;have BK102:=n0_;have HB:=n1_;have BK103:=n2_;have GW103:=n3_;have GE103:=n4_;have NB102_103:=n5_;have NB103_102:=n6_;clear n0_ n1_ n2_ n3_ n4_ n5_ n6_;clear hb hbox hg)|((with_reducible refine gate_dst (N:=3) rfl ?_);refine box_event ?hg (N:=3) ?hd (cs:=#[.bool false,.string (⟨#[]⟩:ByteArray),.int .i64 0]) (t:=26) ?hr ?_;(case hd => rfl);(case hg => rfl);(case hr => first|(go_simp;done)|(go_simp;rfl));intro gb104 hg w4 hbox hb;have n0_:=bb_ BK102 hb;have n1_:=bb_ BK103 hb;have n2_:=bs_ HB hb;have n3_:=Am1_ (hbox);have n4_:=gw_ hg HB;have n5_:=gw_ hg HB;have n6_:=ne1_ hg BK102;have n7_:=ne2_ hg BK102;have n8_:=ne1_ hg BK103;have n9_:=ne2_ hg BK103;clear BK102;clear BK103;clear HB;have BK102:=n0_;have BK103:=n1_;have HB:=n2_;have BK104:=n3_;have GW104:=n4_;have GE104:=n5_;have NB102_104:=n6_;have NB104_102:=n7_;have NB103_104:=n8_;have NB104_103:=n9_;clear n0_ n1_ n2_ n3_ n4_ n5_ n6_ n7_ n8_ n9_;clear hb hbox hg;have hnb5:=NB102_103.out;have hnc5:=NB103_102.out;have hnb6:=NB102_104.out;have hnc6:=NB104_102.out;have hcz7_0:w4.cell? ⟨gb102,0,none⟩=some (.bool a0_0):=q_ BK102 0 rfl;have hcz7_1:w4.cell? ⟨gb102,1,none⟩=some (.string a0_1):=q_ BK102 1 rfl;have hcz7_2:w4.cell? ⟨gb102,2,none⟩=some (.int .i64 a0_2):=q_ BK102 2 rfl;have hfz7_0:=blk_frozen BK102.out 0;have hfz7_1:=blk_frozen BK102.out 1;have hfz7_2:=blk_frozen BK102.out 2;have hnb8:=NB104_103.out;have hnc8:=NB103_104.out;have hcz9_0:w4.cell? ⟨gb104,0,none⟩=some (.bool false):=q_ BK104 0 rfl;have hcz9_1:w4.cell? ⟨gb104,1,none⟩=some (.string (⟨#[]⟩:ByteArray)):=q_ BK104 1 rfl;have hcz9_2:w4.cell? ⟨gb104,2,none⟩=some (.int .i64 0):=q_ BK104 2 rfl;have hfz9_0:=blk_frozen BK104.out 0;have hfz9_1:=blk_frozen BK104.out 1;have hfz9_2:=blk_frozen BK104.out 2;have hcz10_0:w4.cell? ⟨gb103,0,none⟩=some (.bool false):=q_ BK103 0 rfl;have hcz10_1:w4.cell? ⟨gb103,1,none⟩=some (.string (⟨#[]⟩:ByteArray)):=q_ BK103 1 rfl;have hcz10_2:w4.cell? ⟨gb103,2,none⟩=some (.int .i64 0):=q_ BK103 2 rfl;have hfz10_0:=blk_frozen BK103.out 0;have hfz10_1:=blk_frozen BK103.out 1;have hfz10_2:=blk_frozen BK103.out 2))
 refine bodyPost_ret (results_cell_row rfl _ _ gb103 26 #[.bool a0_0,.string a0_1,.int .i64 a0_2] (0,0) _ rfl (by (with_reducible repeat (first|refine blk_drewN ?_ _|refine blk_drew ?_|refine blk_alloc ?_ _));refine blk_put (cs:=#[.bool a0_0,.string a0_1,.int .i64 0]) ?_ 2 _ rfl;(with_reducible repeat (first|refine blk_drewN ?_ _|refine blk_drew ?_|refine blk_alloc ?_ _));refine blk_put (cs:=#[.bool a0_0,.string (⟨#[]⟩:ByteArray),.int .i64 0]) ?_ 1 _ rfl;(with_reducible repeat (first|refine blk_drewN ?_ _|refine blk_drew ?_|refine blk_alloc ?_ _));refine blk_put (cs:=#[.bool false,.string (⟨#[]⟩:ByteArray),.int .i64 0]) ?_ 0 _ rfl;(with_reducible repeat (first|refine blk_drewN ?_ _|refine blk_drew ?_|refine blk_alloc ?_ _));refine blk_far ?_ NB103_104.out _;(with_reducible repeat (first|refine blk_drewN ?_ _|refine blk_drew ?_|refine blk_alloc ?_ _));refine blk_far ?_ NB103_104.out _;(with_reducible repeat (first|refine blk_drewN ?_ _|refine blk_drew ?_|refine blk_alloc ?_ _));refine blk_far ?_ NB103_104.out _;(with_reducible repeat (first|refine blk_drewN ?_ _|refine blk_drew ?_|refine blk_alloc ?_ _));exact BK103.out) Tryd.underlying26 rfl (by kernel_rfl)) rfl ?_;exact ⟨by first|rfl|(simp [errW_none,errW_some] <;> rfl)|(simp [*,errW_none,errW_some] <;> rfl),by repeat (first|(with_reducible first|exact HB.out|apply below_alloc|apply pw_below_drewN|apply below_drew1|refine below_set ?_ GE102.out|refine below_set ?_ GE103.out|refine below_set ?_ GE104.out)|exact HB.out)⟩

/-! ### spec_l9Labels: function 45 -/
def spec_l9Labels.l0:Nat → ByteArray → List ByteArray → Int → Int → Option (List ByteArray)
|0,_,_,_,_ => none
|k + 1,x0,x3,x4,x5 => if x5 ≤ (x0.size:Int) then (if x5=(x0.size:Int) then (if 0 ≤ x4 then (if x4 ≤ x5 then (if x3.length < 8796093022208 then (spec_l9Labels.l0 k x0 (x3 ++ [x0.extract (x4:Int).toNat (x5:Int).toNat]) (wrap64 (x5 + 1)) (wrap64 (x5 + 1))) else (none)) else (none)) else (none)) else (if 0 ≤ x5 then (if x5 < (x0.size:Int) then (if (bt x0 x5)=46 then (if 0 ≤ x4 then (if x4 ≤ x5 then (if x3.length < 8796093022208 then (spec_l9Labels.l0 k x0 (x3 ++ [x0.extract (x4:Int).toNat (x5:Int).toNat]) (wrap64 (x5 + 1)) (wrap64 (x5 + 1))) else (none)) else (none)) else (none)) else (spec_l9Labels.l0 k x0 x3 x4 (wrap64 (x5 + 1)))) else (none)) else (none))) else (some x3)
def spec_l9Labels.f (k:Nat) (a0:ByteArray):Option (List ByteArray):=spec_l9Labels.l0 k a0 (([]:List ByteArray)) 0 0
theorem spec_l9Labels.mono_l:∀ k,(∀ y0 y1 y2 y3,LeO (spec_l9Labels.l0 k y0 y1 y2 y3) (spec_l9Labels.l0 (k + 1) y0 y1 y2 y3))
|0 => fun _ _ _ _ r h => by simp [spec_l9Labels.l0] at h
|k + 1 => by
  have ih0:=spec_l9Labels.mono_l k
  ·intro y0 y1 y2 y3
   unfold spec_l9Labels.l0
   repeat' first
  |(with_reducible exact ih0 _ _ _ _)
  |(with_reducible exact LeO.refl _)
  |(with_reducible exact LeO.none _)
  |(with_reducible refine LeO.ite ?_ ?_)
  |(with_reducible refine LeO.bind ?_ (fun _ => ?_))
  |exact ih0 _ _ _ _
  |exact LeO.none _
  |refine LeO.ite ?_ ?_
  |refine LeO.bind ?_ (fun _ => ?_)
theorem spec_l9Labels.mono:∀ a0 k,LeO (spec_l9Labels.f k a0) (spec_l9Labels.f (k + 1) a0):=by
 intro a0 k;have ih0:=spec_l9Labels.mono_l k
 unfold spec_l9Labels.f
 repeat' first
  |(with_reducible exact ih0 _ _ _ _)
  |(with_reducible exact LeO.refl _)
  |(with_reducible exact LeO.none _)
  |(with_reducible refine LeO.ite ?_ ?_)
  |(with_reducible refine LeO.bind ?_ (fun _ => ?_))
  |exact ih0 _ _ _ _
  |exact LeO.none _
  |refine LeO.ite ?_ ?_
  |refine LeO.bind ?_ (fun _ => ?_)
set_option maxHeartbeats 8000000 in
set_option maxRecDepth 100000 in
theorem spec_l9Labels.calls (k:Nat) (a0:ByteArray) (r:List ByteArray) (w:World) (h:spec_l9Labels.f k a0=some r) :
  Calls Tryd.prog 45 #[.string a0] w fun e w' => ∃ v0_:Value,e=.returned (v0_)∧Kd.R Kd.string 9 w' w.heap.size (fun _ => True) v0_ r∧Below w.heap.size w w':=by
 have HB:=Am1_ (Below.refl w.heap.size w);have H:(spec_l9Labels.l0 k a0 (([]:List ByteArray)) 0 0)=some r:=h;clear h;obtain ⟨y105,hy105⟩:∃ y_:List ByteArray,y_=(([]:List ByteArray)):=⟨_,rfl⟩;replace H:(spec_l9Labels.l0 k a0 y105 0 0)=some r:=by first|(rw [hy105];with_reducible exact H)|(have H2_:=(Option.bind_some _ _).symm.trans H;rw [hy105];with_reducible exact H2_)|(have H2_:=(Option.bind_some _ _).symm.trans H;with_reducible exact H2_)|with_reducible exact H|(rw [hy105];exact H)|exact H
 have Ny105:=Am1_ hy105;clear hy105;have H':=Am1_ H;clear H
 go_enter Tryd.func45,Tryd.ntmps45
 go_wp2_with (first|((with_reducible refine gate_dst (N:=6) rfl ?_);refine Kd.R_lit Kd.string _ 9 ?hg (N:=6) ?hd (xs:=([]:List ByteArray)) (inner:=[]) (ok:=fun _ => True) (okp:=fun _ => True) ?hr ?hp (fun _ hk => hk) trivial (Below.refl _ _) (Nat.le_refl _) (by simp) ?_;(case hd => rfl);(case hg => rfl);(case hr => first|(go_simp;done)|(go_simp;rfl));(case hp => exact (Reps.none _ _));intro v106 w2 ho3 hb hg_ hnew_;clear hg_ hnew_;(first|rw [← Ny105.out] at ho3|(simp only [Int.reduceToNat] at ho3;rw [← Ny105.out] at ho3));have n0_:=Am1_ (Kd.R_lower ho3 (below_size (xe_ HB)));have n1_:=bs_ HB hb;clear HB;have HO107:=n0_;have HB:=n1_;clear n0_ n1_;clear hb ho3))
 go_loopg [3,4,5] k (fun kq v3 v4 v5 w' => ∃ (x3_1:List ByteArray) (x4_1:Int) (x5_1:Int),v4=.int .i64 x4_1∧v5=.int .i64 x5_1∧Aside0 (spec_l9Labels.l0 kq a0 x3_1 x4_1 x5_1=some r)∧Aside0 (kq ≤ k)∧Aside0 (Kd.R Kd.string 9 w' w.heap.size (fun _ => True) v3 x3_1)∧Aside0 (Below w.heap.size w w'))
 case atStart => exact ⟨(y105),(0),(0),(by first|rfl|(simp;done)|(simp [*];done)),(by first|rfl|(simp;done)|(simp [*];done)),H',⟨Nat.le_refl _⟩,⟨by (with_reducible repeat (first|apply Kd.R_alloc|apply Kd.R_drewN|apply Kd.R_drew));exact HO107.out⟩,⟨by repeat (first|(with_reducible first|exact HB.out|apply below_alloc|apply pw_below_drewN|apply below_drew1)|exact HB.out)⟩⟩
 case round =>
  clear H'
  try clear p2
  obtain ⟨x3_1,x4_1,x5_1,rfl,rfl,HA,HK1,HO_3,HB⟩:=hrel
  cases gk with
 |zero => exact absurd HA.out (by simp [spec_l9Labels.l0])
 |succ k1 =>
   have H:=HA.out;clear HA;simp only [spec_l9Labels.l0] at H
   by_cases c4:x5_1 ≤ (a0.size:Int)
   ·rw [if_pos c4] at H
    have c4b0:decide (x5_1 ≤ (a0.size:Int))=true:=decide_eq_true c4;clear c4
    by_cases c5:x5_1=(a0.size:Int)
    ·rw [if_pos c5] at H
     have c5b0:(x5_1 == (a0.size:Int))=true:=beq_iff_eq.mpr c5;have c5b1:(x5_1 != (a0.size:Int))=false:=bne_eq_false_iff_eq.mpr c5;clear c5
     by_cases c6:0 ≤ x4_1
     ·rw [if_pos c6] at H
      have c6b0:=eq_true c6;have c6b1:decide (0 ≤ x4_1)=true:=decide_eq_true c6;clear c6
      by_cases c7:x4_1 ≤ x5_1
      ·rw [if_pos c7] at H
       have c7b0:=eq_true c7;have c7b1:decide (x4_1 ≤ x5_1)=true:=decide_eq_true c7;clear c7;have c8b0:=eq_true (of_decide_eq_true (by first|(with_reducible assumption)|assumption):x5_1 ≤ (a0.size:Int))
       by_cases c9:x3_1.length < 8796093022208
       ·rw [if_pos c9] at H
        have LMc9:=Am1_ c9;clear c9;obtain ⟨y108,hy108⟩:∃ y_:List ByteArray,y_=(x3_1 ++ [a0.extract (x4_1:Int).toNat (x5_1:Int).toNat]):=⟨_,rfl⟩;replace H:(spec_l9Labels.l0 k1 a0 y108 (wrap64 (x5_1 + 1)) (wrap64 (x5_1 + 1)))=some r:=by first|(rw [hy108];with_reducible exact H)|(have H2_:=(Option.bind_some _ _).symm.trans H;rw [hy108];with_reducible exact H2_)|(have H2_:=(Option.bind_some _ _).symm.trans H;with_reducible exact H2_)|with_reducible exact H|(rw [hy108];exact H)|exact H
        have Ny108:=Am1_ hy108;clear hy108;have H':=Am1_ H;clear H
        go_wp2_with (first|((with_reducible refine gate_builtin (b:=.append) (xs:=#[.tmp 23,.tmp 28]) rfl ?_);at_builtin;refine Kd.R_append Kd.string (w0:=w) w.heap.size rfl (.tmp 23) (.tmp 28) 66 9 (.string ⟨#[]⟩) 16 rfl Tryd.underlying66 info9 rfl (by decide) (by omega) u3 x3_1 (a0.extract (x4_1:Int).toNat (x5_1:Int).toNat) [.string (a0.extract (x4_1:Int).toNat (x5_1:Int).toNat)] (fun _ => True) (fun _ => False) rfl rfl ?aP (fun _ hk => hk.elim) ?aF ?aO ?aB ?aS ?aL ?_;(case aP => exact rfl);(case aB => exact (xe_ HB));(case aF => exact (fun _ _ => trivial));(case aO => exact (by (with_reducible repeat (first|apply Kd.R_alloc|apply Kd.R_drewN|apply Kd.R_drew));exact HO_3.out));(case aS => exact (below_size (xe_ HB)));(case aL => have:=LMc9.out;omega);intro v109 w10 ho hb hg hat;rw [← Ny108.out] at ho;have n0_:=Am1_ (hb);have n1_:=Am1_ (ho);clear HB;clear HO_3;have HB:=n0_;have HO110:=n1_;clear n0_ n1_;clear ho hb hg hat))
        go_roundg k1
        case measure => have:=HK1.out;omega
        case rel => exact ⟨(y108),(wrap64 (x5_1 + 1)),(wrap64 (x5_1 + 1)),(by first|rfl|(simp;done)|(simp [*];done)),(by first|rfl|(simp;done)|(simp [*];done)),H',⟨by have:=HK1.out;omega⟩,⟨by (with_reducible repeat (first|apply Kd.R_alloc|apply Kd.R_drewN|apply Kd.R_drew));exact HO110.out⟩,⟨by repeat (first|(with_reducible first|exact HB.out|apply below_alloc|apply pw_below_drewN|apply below_drew1)|exact HB.out)⟩⟩
       ·rw [if_neg c9] at H
        exact absurd H (by simp)
      ·rw [if_neg c7] at H
       exact absurd H (by simp)
     ·rw [if_neg c6] at H
      exact absurd H (by simp)
    ·rw [if_neg c5] at H
     have c5b0:(x5_1 == (a0.size:Int))=false:=beq_eq_false_iff_ne.mpr c5;have c5b1:(x5_1 != (a0.size:Int))=true:=bne_iff_ne.mpr c5
     by_cases c11:0 ≤ x5_1
     ·rw [if_pos c11] at H
      have c11b0:decide (0 ≤ x5_1)=true:=decide_eq_true c11;clear c11
      by_cases c12:x5_1 < (a0.size:Int)
      ·rw [if_pos c12] at H
       have c12b0:decide (x5_1 < (a0.size:Int))=true:=decide_eq_true c12;clear c12
       by_cases c14:(bt a0 x5_1)=46
       ·rw [if_pos c14] at H
        have c14b0:((bt a0 x5_1) == 46)=true:=beq_iff_eq.mpr c14;have c14b1:((bt a0 x5_1) != 46)=false:=bne_eq_false_iff_eq.mpr c14;clear c14
        by_cases c15:0 ≤ x4_1
        ·rw [if_pos c15] at H
         have c15b0:=eq_true c15;have c15b1:decide (0 ≤ x4_1)=true:=decide_eq_true c15;clear c15
         by_cases c16:x4_1 ≤ x5_1
         ·rw [if_pos c16] at H
          have c16b0:=eq_true c16;have c16b1:decide (x4_1 ≤ x5_1)=true:=decide_eq_true c16;clear c16;have c17b0:=eq_true (of_decide_eq_true (by first|(with_reducible assumption)|assumption):x5_1 ≤ (a0.size:Int))
          by_cases c18:x3_1.length < 8796093022208
          ·rw [if_pos c18] at H
           have LMc18:=Am1_ c18;clear c18;obtain ⟨y111,hy111⟩:∃ y_:List ByteArray,y_=(x3_1 ++ [a0.extract (x4_1:Int).toNat (x5_1:Int).toNat]):=⟨_,rfl⟩;replace H:(spec_l9Labels.l0 k1 a0 y111 (wrap64 (x5_1 + 1)) (wrap64 (x5_1 + 1)))=some r:=by first|(rw [hy111];with_reducible exact H)|(have H2_:=(Option.bind_some _ _).symm.trans H;rw [hy111];with_reducible exact H2_)|(have H2_:=(Option.bind_some _ _).symm.trans H;with_reducible exact H2_)|with_reducible exact H|(rw [hy111];exact H)|exact H
           have Ny111:=Am1_ hy111;clear hy111;have H':=Am1_ H;clear H;have p13:0 ≤ (x5_1:Int):=of_decide_eq_true (by first|(with_reducible assumption)|assumption);have q13:x5_1 < (a0.size:Int):=of_decide_eq_true (by first|(with_reducible assumption)|assumption);have hx13:=bt_at a0 x5_1;replace p13:=eq_true p13;replace q13:=eq_true q13
           go_wp2_with (first|((with_reducible refine gate_builtin (b:=.append) (xs:=#[.tmp 23,.tmp 28]) rfl ?_);at_builtin;refine Kd.R_append Kd.string (w0:=w) w.heap.size rfl (.tmp 23) (.tmp 28) 66 9 (.string ⟨#[]⟩) 16 rfl Tryd.underlying66 info9 rfl (by decide) (by omega) u3 x3_1 (a0.extract (x4_1:Int).toNat (x5_1:Int).toNat) [.string (a0.extract (x4_1:Int).toNat (x5_1:Int).toNat)] (fun _ => True) (fun _ => False) rfl rfl ?aP (fun _ hk => hk.elim) ?aF ?aO ?aB ?aS ?aL ?_;(case aP => exact rfl);(case aB => exact (xe_ HB));(case aF => exact (fun _ _ => trivial));(case aO => exact (by (with_reducible repeat (first|apply Kd.R_alloc|apply Kd.R_drewN|apply Kd.R_drew));exact HO_3.out));(case aS => exact (below_size (xe_ HB)));(case aL => have:=LMc18.out;omega);intro v112 w19 ho hb hg hat;rw [← Ny111.out] at ho;have n0_:=Am1_ (hb);have n1_:=Am1_ (ho);clear HB;clear HO_3;have HB:=n0_;have HO113:=n1_;clear n0_ n1_;clear ho hb hg hat))
           go_roundg k1
           case measure => have:=HK1.out;omega
           case rel => exact ⟨(y111),(wrap64 (x5_1 + 1)),(wrap64 (x5_1 + 1)),(by first|rfl|(simp;done)|(simp [*];done)),(by first|rfl|(simp;done)|(simp [*];done)),H',⟨by have:=HK1.out;omega⟩,⟨by (with_reducible repeat (first|apply Kd.R_alloc|apply Kd.R_drewN|apply Kd.R_drew));exact HO113.out⟩,⟨by repeat (first|(with_reducible first|exact HB.out|apply below_alloc|apply pw_below_drewN|apply below_drew1)|exact HB.out)⟩⟩
          ·rw [if_neg c18] at H
           exact absurd H (by simp)
         ·rw [if_neg c16] at H
          exact absurd H (by simp)
        ·rw [if_neg c15] at H
         exact absurd H (by simp)
       ·rw [if_neg c14] at H
        have c14b0:((bt a0 x5_1) == 46)=false:=beq_eq_false_iff_ne.mpr c14;have c14b1:((bt a0 x5_1) != 46)=true:=bne_iff_ne.mpr c14;have H':=Am1_ H;clear H;have p13:0 ≤ (x5_1:Int):=of_decide_eq_true (by first|(with_reducible assumption)|assumption);have q13:x5_1 < (a0.size:Int):=of_decide_eq_true (by first|(with_reducible assumption)|assumption);have hx13:=bt_at a0 x5_1;replace p13:=eq_true p13;replace q13:=eq_true q13
        go_wp2
        go_roundg k1
        case measure => have:=HK1.out;omega
        case rel => exact ⟨(x3_1),(x4_1),(wrap64 (x5_1 + 1)),(by first|rfl|(simp;done)|(simp [*];done)),(by first|rfl|(simp;done)|(simp [*];done)),H',⟨by have:=HK1.out;omega⟩,⟨by (with_reducible repeat (first|apply Kd.R_alloc|apply Kd.R_drewN|apply Kd.R_drew));exact HO_3.out⟩,⟨by repeat (first|(with_reducible first|exact HB.out|apply below_alloc|apply pw_below_drewN|apply below_drew1)|exact HB.out)⟩⟩
      ·rw [if_neg c12] at H
       exact absurd H (by simp)
     ·rw [if_neg c11] at H
      exact absurd H (by simp)
   ·rw [if_neg c4] at H
    have c4b0:decide (x5_1 ≤ (a0.size:Int))=false:=decide_eq_false c4;clear c4;obtain rfl:=Option.some.inj H
    go_wp2
    go_ret
    exact ⟨_,by first|rfl|(simp [errW_none,errW_some] <;> rfl)|(simp [*,errW_none,errW_some] <;> rfl),by (with_reducible repeat (first|apply Kd.R_alloc|apply Kd.R_drewN|apply Kd.R_drew));exact HO_3.out,by repeat (first|(with_reducible first|exact HB.out|apply below_alloc|apply pw_below_drewN|apply below_drew1)|exact HB.out)⟩

/-! ### spec_l1In: function 36 -/
def spec_l1In.f (a0:Int) (a1:Int) (a2:Int):Option (Bool):=if a0 ≥ a1 then (some (decide (a0 ≤ a2))) else (some false)
set_option maxHeartbeats 8000000 in
set_option maxRecDepth 100000 in
theorem spec_l1In.calls (a0:Int) (a1:Int) (a2:Int) (r:Bool) (w:World) (h:spec_l1In.f a0 a1 a2=some r) :
  Calls Tryd.prog 36 #[.int .i64 a0,.int .i64 a1,.int .i64 a2] w fun e w' => e=.returned (.bool r)∧Drawn0 w w':=by
 have H:(if a0 ≥ a1 then (some (decide (a0 ≤ a2))) else (some false))=some r:=h;clear h
 by_cases c4:a0 ≥ a1
 ·rw [if_pos c4] at H
  have c4b0:decide (a1 ≤ a0)=true:=decide_eq_true c4;clear c4;obtain rfl:=Option.some.inj H
  go_enter Tryd.func36,Tryd.ntmps36
  go_wp2
  go_ret
  exact ⟨by first|rfl|(simp;done)|(simp [*];done),by repeat (first|exact Drawn0.refl _|apply Drawn0.step)⟩
 ·rw [if_neg c4] at H
  have c4b0:decide (a1 ≤ a0)=false:=decide_eq_false c4;clear c4;obtain rfl:=Option.some.inj H
  go_enter Tryd.func36,Tryd.ntmps36
  go_wp2
  go_ret
  exact ⟨by first|rfl|(simp;done)|(simp [*];done),by repeat (first|exact Drawn0.refl _|apply Drawn0.step)⟩

/-! ### spec_l9Label: function 58 -/
def spec_l9Label.l0:Nat → ByteArray → Int → Option (Bool)
|0,_,_ => none
|k + 1,x0,x3 => if x3 < (x0.size:Int) then (if 0 ≤ x3 then (if (bt x0 x3) ≥ 97 then (if (bt x0 x3) ≤ 122 then (spec_l9Label.l0 k x0 (wrap64 (x3 + 1))) else (if (bt x0 x3) ≥ 48 then (if (bt x0 x3) ≤ 57 then (spec_l9Label.l0 k x0 (wrap64 (x3 + 1))) else (if ((bt x0 x3)=45) then (spec_l9Label.l0 k x0 (wrap64 (x3 + 1))) else (some false))) else (if ((bt x0 x3)=45) then (spec_l9Label.l0 k x0 (wrap64 (x3 + 1))) else (some false)))) else (if (bt x0 x3) ≥ 48 then (if (bt x0 x3) ≤ 57 then (spec_l9Label.l0 k x0 (wrap64 (x3 + 1))) else (if ((bt x0 x3)=45) then (spec_l9Label.l0 k x0 (wrap64 (x3 + 1))) else (some false))) else (if ((bt x0 x3)=45) then (spec_l9Label.l0 k x0 (wrap64 (x3 + 1))) else (some false)))) else (none)) else ((spec_l1In.f (x0.size:Int) 1 20).bind fun t114 => (if t114=true then (if 0 < (x0.size:Int) then (if (bt x0 0)=45 then (some false) else (if 0 ≤ (wrap64 ((x0.size:Int) - 1)) then (if (wrap64 ((x0.size:Int) - 1)) < (x0.size:Int) then (some ((bt x0 (wrap64 ((x0.size:Int) - 1))) != 45)) else (none)) else (none))) else (none)) else (some false)))
def spec_l9Label.f (k:Nat) (a0:ByteArray):Option (Bool):=spec_l9Label.l0 k a0 0
theorem spec_l9Label.mono_l:∀ k,(∀ y0 y1,LeO (spec_l9Label.l0 k y0 y1) (spec_l9Label.l0 (k + 1) y0 y1))
|0 => fun _ _ r h => by simp [spec_l9Label.l0] at h
|k + 1 => by
  have ih0:=spec_l9Label.mono_l k
  ·intro y0 y1
   unfold spec_l9Label.l0
   repeat' first
  |(with_reducible exact ih0 _ _)
  |(with_reducible exact LeO.refl _)
  |(with_reducible exact LeO.none _)
  |(with_reducible refine LeO.ite ?_ ?_)
  |(with_reducible refine LeO.bind ?_ (fun _ => ?_))
  |exact ih0 _ _
  |exact LeO.none _
  |refine LeO.ite ?_ ?_
  |refine LeO.bind ?_ (fun _ => ?_)
theorem spec_l9Label.mono:∀ a0 k,LeO (spec_l9Label.f k a0) (spec_l9Label.f (k + 1) a0):=by
 intro a0 k;have ih0:=spec_l9Label.mono_l k
 unfold spec_l9Label.f
 repeat' first
  |(with_reducible exact ih0 _ _)
  |(with_reducible exact LeO.refl _)
  |(with_reducible exact LeO.none _)
  |(with_reducible refine LeO.ite ?_ ?_)
  |(with_reducible refine LeO.bind ?_ (fun _ => ?_))
  |exact ih0 _ _
  |exact LeO.none _
  |refine LeO.ite ?_ ?_
  |refine LeO.bind ?_ (fun _ => ?_)
set_option maxHeartbeats 8000000 in
set_option maxRecDepth 100000 in
theorem spec_l9Label.calls (k:Nat) (a0:ByteArray) (r:Bool) (w:World) (h:spec_l9Label.f k a0=some r) :
  Calls Tryd.prog 58 #[.string a0] w fun e w' => e=.returned (.bool r)∧Drawn0 w w':=by
 have H:(spec_l9Label.l0 k a0 0)=some r:=h;clear h;have H':=Am1_ H;clear H
 go_enter Tryd.func58,Tryd.ntmps58
 go_wp2
 go_loopg [3] k (fun kq v3 w' => ∃ (x3_1:Int),v3=.int .i64 x3_1∧Aside0 (spec_l9Label.l0 kq a0 x3_1=some r)∧Aside0 (kq ≤ k)∧Drawn0 w w')
 case atStart => exact ⟨(0),(by first|rfl|(simp;done)|(simp [*];done)),H',⟨Nat.le_refl _⟩,by repeat (first|exact Drawn0.refl _|apply Drawn0.step)⟩
 case round =>
  clear H';obtain ⟨x3_1,rfl,HA,HK1,⟨m1,rfl⟩⟩:=hrel
  cases gk with
 |zero => exact absurd HA.out (by simp [spec_l9Label.l0])
 |succ k1 =>
   have H:=HA.out;clear HA;simp only [spec_l9Label.l0] at H
   by_cases c2:x3_1 < (a0.size:Int)
   ·rw [if_pos c2] at H
    have c2b0:decide (x3_1 < (a0.size:Int))=true:=decide_eq_true c2;clear c2
    by_cases c3:0 ≤ x3_1
    ·rw [if_pos c3] at H
     have c3b0:decide (0 ≤ x3_1)=true:=decide_eq_true c3;clear c3
     by_cases c5:(bt a0 x3_1) ≥ 97
     ·rw [if_pos c5] at H
      have c5b0:decide (97 ≤ (bt a0 x3_1))=true:=decide_eq_true c5;clear c5
      by_cases c7:(bt a0 x3_1) ≤ 122
      ·rw [if_pos c7] at H
       have c7b0:decide ((bt a0 x3_1) ≤ 122)=true:=decide_eq_true c7;clear c7;have H':=Am1_ H;clear H;have p4:0 ≤ (x3_1:Int):=of_decide_eq_true (by first|(with_reducible assumption)|assumption);have q4:x3_1 < (a0.size:Int):=of_decide_eq_true (by first|(with_reducible assumption)|assumption);have hx4:=bt_at a0 x3_1;replace p4:=eq_true p4;replace q4:=eq_true q4;have p6:0 ≤ (x3_1:Int):=of_decide_eq_true (by first|(with_reducible assumption)|assumption);have q6:x3_1 < (a0.size:Int):=of_decide_eq_true (by first|(with_reducible assumption)|assumption);have hx6:=bt_at a0 x3_1;replace p6:=eq_true p6;replace q6:=eq_true q6
       go_wp2
       go_roundg k1
       case measure => have:=HK1.out;omega
       case rel => exact ⟨(wrap64 (x3_1 + 1)),(by first|rfl|(simp;done)|(simp [*];done)),H',⟨by have:=HK1.out;omega⟩,by repeat (first|exact Drawn0.refl _|apply Drawn0.step)⟩
      ·rw [if_neg c7] at H
       have c7b0:decide ((bt a0 x3_1) ≤ 122)=false:=decide_eq_false c7;clear c7
       by_cases c9:(bt a0 x3_1) ≥ 48
       ·rw [if_pos c9] at H
        have c9b0:decide (48 ≤ (bt a0 x3_1))=true:=decide_eq_true c9;clear c9
        by_cases c11:(bt a0 x3_1) ≤ 57
        ·rw [if_pos c11] at H
         have c11b0:decide ((bt a0 x3_1) ≤ 57)=true:=decide_eq_true c11;clear c11;have H':=Am1_ H;clear H;have p4:0 ≤ (x3_1:Int):=of_decide_eq_true (by first|(with_reducible assumption)|assumption);have q4:x3_1 < (a0.size:Int):=of_decide_eq_true (by first|(with_reducible assumption)|assumption);have hx4:=bt_at a0 x3_1;replace p4:=eq_true p4;replace q4:=eq_true q4;have p6:0 ≤ (x3_1:Int):=of_decide_eq_true (by first|(with_reducible assumption)|assumption);have q6:x3_1 < (a0.size:Int):=of_decide_eq_true (by first|(with_reducible assumption)|assumption);have hx6:=bt_at a0 x3_1;replace p6:=eq_true p6;replace q6:=eq_true q6;have p8:0 ≤ (x3_1:Int):=of_decide_eq_true (by first|(with_reducible assumption)|assumption);have q8:x3_1 < (a0.size:Int):=of_decide_eq_true (by first|(with_reducible assumption)|assumption);have hx8:=bt_at a0 x3_1;replace p8:=eq_true p8;replace q8:=eq_true q8;have p10:0 ≤ (x3_1:Int):=of_decide_eq_true (by first|(with_reducible assumption)|assumption);have q10:x3_1 < (a0.size:Int):=of_decide_eq_true (by first|(with_reducible assumption)|assumption);have hx10:=bt_at a0 x3_1;replace p10:=eq_true p10;replace q10:=eq_true q10
         go_wp2
         go_roundg k1
         case measure => have:=HK1.out;omega
         case rel => exact ⟨(wrap64 (x3_1 + 1)),(by first|rfl|(simp;done)|(simp [*];done)),H',⟨by have:=HK1.out;omega⟩,by repeat (first|exact Drawn0.refl _|apply Drawn0.step)⟩
        ·rw [if_neg c11] at H
         have c11b0:decide ((bt a0 x3_1) ≤ 57)=false:=decide_eq_false c11;clear c11
         by_cases c13:((bt a0 x3_1)=45)
         ·rw [if_pos c13] at H
          have c13b0:((bt a0 x3_1) == 45)=true:=beq_iff_eq.mpr c13;have c13b1:((bt a0 x3_1) != 45)=false:=bne_eq_false_iff_eq.mpr c13;clear c13;have H':=Am1_ H;clear H;have p4:0 ≤ (x3_1:Int):=of_decide_eq_true (by first|(with_reducible assumption)|assumption);have q4:x3_1 < (a0.size:Int):=of_decide_eq_true (by first|(with_reducible assumption)|assumption);have hx4:=bt_at a0 x3_1;replace p4:=eq_true p4;replace q4:=eq_true q4;have p6:0 ≤ (x3_1:Int):=of_decide_eq_true (by first|(with_reducible assumption)|assumption);have q6:x3_1 < (a0.size:Int):=of_decide_eq_true (by first|(with_reducible assumption)|assumption);have hx6:=bt_at a0 x3_1;replace p6:=eq_true p6;replace q6:=eq_true q6;have p8:0 ≤ (x3_1:Int):=of_decide_eq_true (by first|(with_reducible assumption)|assumption);have q8:x3_1 < (a0.size:Int):=of_decide_eq_true (by first|(with_reducible assumption)|assumption);have hx8:=bt_at a0 x3_1;replace p8:=eq_true p8;replace q8:=eq_true q8;have p10:0 ≤ (x3_1:Int):=of_decide_eq_true (by first|(with_reducible assumption)|assumption);have q10:x3_1 < (a0.size:Int):=of_decide_eq_true (by first|(with_reducible assumption)|assumption);have hx10:=bt_at a0 x3_1;replace p10:=eq_true p10;replace q10:=eq_true q10;have p12:0 ≤ (x3_1:Int):=of_decide_eq_true (by first|(with_reducible assumption)|assumption);have q12:x3_1 < (a0.size:Int):=of_decide_eq_true (by first|(with_reducible assumption)|assumption);have hx12:=bt_at a0 x3_1;replace p12:=eq_true p12;replace q12:=eq_true q12
          go_wp2
          go_roundg k1
          case measure => have:=HK1.out;omega
          case rel => exact ⟨(wrap64 (x3_1 + 1)),(by first|rfl|(simp;done)|(simp [*];done)),H',⟨by have:=HK1.out;omega⟩,by repeat (first|exact Drawn0.refl _|apply Drawn0.step)⟩
         ·rw [if_neg c13] at H
          have c13b0:((bt a0 x3_1) == 45)=false:=beq_eq_false_iff_ne.mpr c13;have c13b1:((bt a0 x3_1) != 45)=true:=bne_iff_ne.mpr c13;obtain rfl:=Option.some.inj H;have p4:0 ≤ (x3_1:Int):=of_decide_eq_true (by first|(with_reducible assumption)|assumption);have q4:x3_1 < (a0.size:Int):=of_decide_eq_true (by first|(with_reducible assumption)|assumption);have hx4:=bt_at a0 x3_1;replace p4:=eq_true p4;replace q4:=eq_true q4;have p6:0 ≤ (x3_1:Int):=of_decide_eq_true (by first|(with_reducible assumption)|assumption);have q6:x3_1 < (a0.size:Int):=of_decide_eq_true (by first|(with_reducible assumption)|assumption);have hx6:=bt_at a0 x3_1;replace p6:=eq_true p6;replace q6:=eq_true q6;have p8:0 ≤ (x3_1:Int):=of_decide_eq_true (by first|(with_reducible assumption)|assumption);have q8:x3_1 < (a0.size:Int):=of_decide_eq_true (by first|(with_reducible assumption)|assumption);have hx8:=bt_at a0 x3_1;replace p8:=eq_true p8;replace q8:=eq_true q8;have p10:0 ≤ (x3_1:Int):=of_decide_eq_true (by first|(with_reducible assumption)|assumption);have q10:x3_1 < (a0.size:Int):=of_decide_eq_true (by first|(with_reducible assumption)|assumption);have hx10:=bt_at a0 x3_1;replace p10:=eq_true p10;replace q10:=eq_true q10;have p12:0 ≤ (x3_1:Int):=of_decide_eq_true (by first|(with_reducible assumption)|assumption);have q12:x3_1 < (a0.size:Int):=of_decide_eq_true (by first|(with_reducible assumption)|assumption);have hx12:=bt_at a0 x3_1;replace p12:=eq_true p12;replace q12:=eq_true q12
          go_wp2
          go_ret
          exact ⟨by first|rfl|(simp;done)|(simp [*];done),by repeat (first|exact Drawn0.refl _|apply Drawn0.step)⟩
       ·rw [if_neg c9] at H
        have c9b0:decide (48 ≤ (bt a0 x3_1))=false:=decide_eq_false c9;clear c9
        by_cases c15:((bt a0 x3_1)=45)
        ·rw [if_pos c15] at H
         have c15b0:((bt a0 x3_1) == 45)=true:=beq_iff_eq.mpr c15;have c15b1:((bt a0 x3_1) != 45)=false:=bne_eq_false_iff_eq.mpr c15;clear c15;have H':=Am1_ H;clear H;have p4:0 ≤ (x3_1:Int):=of_decide_eq_true (by first|(with_reducible assumption)|assumption);have q4:x3_1 < (a0.size:Int):=of_decide_eq_true (by first|(with_reducible assumption)|assumption);have hx4:=bt_at a0 x3_1;replace p4:=eq_true p4;replace q4:=eq_true q4;have p6:0 ≤ (x3_1:Int):=of_decide_eq_true (by first|(with_reducible assumption)|assumption);have q6:x3_1 < (a0.size:Int):=of_decide_eq_true (by first|(with_reducible assumption)|assumption);have hx6:=bt_at a0 x3_1;replace p6:=eq_true p6;replace q6:=eq_true q6;have p8:0 ≤ (x3_1:Int):=of_decide_eq_true (by first|(with_reducible assumption)|assumption);have q8:x3_1 < (a0.size:Int):=of_decide_eq_true (by first|(with_reducible assumption)|assumption);have hx8:=bt_at a0 x3_1;replace p8:=eq_true p8;replace q8:=eq_true q8;have p14:0 ≤ (x3_1:Int):=of_decide_eq_true (by first|(with_reducible assumption)|assumption);have q14:x3_1 < (a0.size:Int):=of_decide_eq_true (by first|(with_reducible assumption)|assumption);have hx14:=bt_at a0 x3_1;replace p14:=eq_true p14;replace q14:=eq_true q14
         go_wp2
         go_roundg k1
         case measure => have:=HK1.out;omega
         case rel => exact ⟨(wrap64 (x3_1 + 1)),(by first|rfl|(simp;done)|(simp [*];done)),H',⟨by have:=HK1.out;omega⟩,by repeat (first|exact Drawn0.refl _|apply Drawn0.step)⟩
        ·rw [if_neg c15] at H
         have c15b0:((bt a0 x3_1) == 45)=false:=beq_eq_false_iff_ne.mpr c15;have c15b1:((bt a0 x3_1) != 45)=true:=bne_iff_ne.mpr c15;obtain rfl:=Option.some.inj H;have p4:0 ≤ (x3_1:Int):=of_decide_eq_true (by first|(with_reducible assumption)|assumption);have q4:x3_1 < (a0.size:Int):=of_decide_eq_true (by first|(with_reducible assumption)|assumption);have hx4:=bt_at a0 x3_1;replace p4:=eq_true p4;replace q4:=eq_true q4;have p6:0 ≤ (x3_1:Int):=of_decide_eq_true (by first|(with_reducible assumption)|assumption);have q6:x3_1 < (a0.size:Int):=of_decide_eq_true (by first|(with_reducible assumption)|assumption);have hx6:=bt_at a0 x3_1;replace p6:=eq_true p6;replace q6:=eq_true q6;have p8:0 ≤ (x3_1:Int):=of_decide_eq_true (by first|(with_reducible assumption)|assumption);have q8:x3_1 < (a0.size:Int):=of_decide_eq_true (by first|(with_reducible assumption)|assumption);have hx8:=bt_at a0 x3_1;replace p8:=eq_true p8;replace q8:=eq_true q8;have p14:0 ≤ (x3_1:Int):=of_decide_eq_true (by first|(with_reducible assumption)|assumption);have q14:x3_1 < (a0.size:Int):=of_decide_eq_true (by first|(with_reducible assumption)|assumption);have hx14:=bt_at a0 x3_1;replace p14:=eq_true p14;replace q14:=eq_true q14
         go_wp2
         go_ret
         exact ⟨by first|rfl|(simp;done)|(simp [*];done),by repeat (first|exact Drawn0.refl _|apply Drawn0.step)⟩
     ·rw [if_neg c5] at H
      have c5b0:decide (97 ≤ (bt a0 x3_1))=false:=decide_eq_false c5;clear c5
      by_cases c17:(bt a0 x3_1) ≥ 48
      ·rw [if_pos c17] at H
       have c17b0:decide (48 ≤ (bt a0 x3_1))=true:=decide_eq_true c17;clear c17
       by_cases c19:(bt a0 x3_1) ≤ 57
       ·rw [if_pos c19] at H
        have c19b0:decide ((bt a0 x3_1) ≤ 57)=true:=decide_eq_true c19;clear c19;have H':=Am1_ H;clear H;have p4:0 ≤ (x3_1:Int):=of_decide_eq_true (by first|(with_reducible assumption)|assumption);have q4:x3_1 < (a0.size:Int):=of_decide_eq_true (by first|(with_reducible assumption)|assumption);have hx4:=bt_at a0 x3_1;replace p4:=eq_true p4;replace q4:=eq_true q4;have p16:0 ≤ (x3_1:Int):=of_decide_eq_true (by first|(with_reducible assumption)|assumption);have q16:x3_1 < (a0.size:Int):=of_decide_eq_true (by first|(with_reducible assumption)|assumption);have hx16:=bt_at a0 x3_1;replace p16:=eq_true p16;replace q16:=eq_true q16;have p18:0 ≤ (x3_1:Int):=of_decide_eq_true (by first|(with_reducible assumption)|assumption);have q18:x3_1 < (a0.size:Int):=of_decide_eq_true (by first|(with_reducible assumption)|assumption);have hx18:=bt_at a0 x3_1;replace p18:=eq_true p18;replace q18:=eq_true q18
        go_wp2
        go_roundg k1
        case measure => have:=HK1.out;omega
        case rel => exact ⟨(wrap64 (x3_1 + 1)),(by first|rfl|(simp;done)|(simp [*];done)),H',⟨by have:=HK1.out;omega⟩,by repeat (first|exact Drawn0.refl _|apply Drawn0.step)⟩
       ·rw [if_neg c19] at H
        have c19b0:decide ((bt a0 x3_1) ≤ 57)=false:=decide_eq_false c19;clear c19
        by_cases c21:((bt a0 x3_1)=45)
        ·rw [if_pos c21] at H
         have c21b0:((bt a0 x3_1) == 45)=true:=beq_iff_eq.mpr c21;have c21b1:((bt a0 x3_1) != 45)=false:=bne_eq_false_iff_eq.mpr c21;clear c21;have H':=Am1_ H;clear H;have p4:0 ≤ (x3_1:Int):=of_decide_eq_true (by first|(with_reducible assumption)|assumption);have q4:x3_1 < (a0.size:Int):=of_decide_eq_true (by first|(with_reducible assumption)|assumption);have hx4:=bt_at a0 x3_1;replace p4:=eq_true p4;replace q4:=eq_true q4;have p16:0 ≤ (x3_1:Int):=of_decide_eq_true (by first|(with_reducible assumption)|assumption);have q16:x3_1 < (a0.size:Int):=of_decide_eq_true (by first|(with_reducible assumption)|assumption);have hx16:=bt_at a0 x3_1;replace p16:=eq_true p16;replace q16:=eq_true q16;have p18:0 ≤ (x3_1:Int):=of_decide_eq_true (by first|(with_reducible assumption)|assumption);have q18:x3_1 < (a0.size:Int):=of_decide_eq_true (by first|(with_reducible assumption)|assumption);have hx18:=bt_at a0 x3_1;replace p18:=eq_true p18;replace q18:=eq_true q18;have p20:0 ≤ (x3_1:Int):=of_decide_eq_true (by first|(with_reducible assumption)|assumption);have q20:x3_1 < (a0.size:Int):=of_decide_eq_true (by first|(with_reducible assumption)|assumption);have hx20:=bt_at a0 x3_1;replace p20:=eq_true p20;replace q20:=eq_true q20
         go_wp2
         go_roundg k1
         case measure => have:=HK1.out;omega
         case rel => exact ⟨(wrap64 (x3_1 + 1)),(by first|rfl|(simp;done)|(simp [*];done)),H',⟨by have:=HK1.out;omega⟩,by repeat (first|exact Drawn0.refl _|apply Drawn0.step)⟩
        ·rw [if_neg c21] at H
         have c21b0:((bt a0 x3_1) == 45)=false:=beq_eq_false_iff_ne.mpr c21;have c21b1:((bt a0 x3_1) != 45)=true:=bne_iff_ne.mpr c21;obtain rfl:=Option.some.inj H;have p4:0 ≤ (x3_1:Int):=of_decide_eq_true (by first|(with_reducible assumption)|assumption);have q4:x3_1 < (a0.size:Int):=of_decide_eq_true (by first|(with_reducible assumption)|assumption);have hx4:=bt_at a0 x3_1;replace p4:=eq_true p4;replace q4:=eq_true q4;have p16:0 ≤ (x3_1:Int):=of_decide_eq_true (by first|(with_reducible assumption)|assumption);have q16:x3_1 < (a0.size:Int):=of_decide_eq_true (by first|(with_reducible assumption)|assumption);have hx16:=bt_at a0 x3_1;replace p16:=eq_true p16;replace q16:=eq_true q16;have p18:0 ≤ (x3_1:Int):=of_decide_eq_true (by first|(with_reducible assumption)|assumption);have q18:x3_1 < (a0.size:Int):=of_decide_eq_true (by first|(with_reducible assumption)|assumption);have hx18:=bt_at a0 x3_1;replace p18:=eq_true p18;replace q18:=eq_true q18;have p20:0 ≤ (x3_1:Int):=of_decide_eq_true (by first|(with_reducible assumption)|assumption);have q20:x3_1 < (a0.size:Int):=of_decide_eq_true (by first|(with_reducible assumption)|assumption);have hx20:=bt_at a0 x3_1;replace p20:=eq_true p20;replace q20:=eq_true q20
         go_wp2
         go_ret
         exact ⟨by first|rfl|(simp;done)|(simp [*];done),by repeat (first|exact Drawn0.refl _|apply Drawn0.step)⟩
      ·rw [if_neg c17] at H
       have c17b0:decide (48 ≤ (bt a0 x3_1))=false:=decide_eq_false c17;clear c17
       by_cases c23:((bt a0 x3_1)=45)
       ·rw [if_pos c23] at H
        have c23b0:((bt a0 x3_1) == 45)=true:=beq_iff_eq.mpr c23;have c23b1:((bt a0 x3_1) != 45)=false:=bne_eq_false_iff_eq.mpr c23;clear c23;have H':=Am1_ H;clear H;have p4:0 ≤ (x3_1:Int):=of_decide_eq_true (by first|(with_reducible assumption)|assumption);have q4:x3_1 < (a0.size:Int):=of_decide_eq_true (by first|(with_reducible assumption)|assumption);have hx4:=bt_at a0 x3_1;replace p4:=eq_true p4;replace q4:=eq_true q4;have p16:0 ≤ (x3_1:Int):=of_decide_eq_true (by first|(with_reducible assumption)|assumption);have q16:x3_1 < (a0.size:Int):=of_decide_eq_true (by first|(with_reducible assumption)|assumption);have hx16:=bt_at a0 x3_1;replace p16:=eq_true p16;replace q16:=eq_true q16;have p22:0 ≤ (x3_1:Int):=of_decide_eq_true (by first|(with_reducible assumption)|assumption);have q22:x3_1 < (a0.size:Int):=of_decide_eq_true (by first|(with_reducible assumption)|assumption);have hx22:=bt_at a0 x3_1;replace p22:=eq_true p22;replace q22:=eq_true q22
        go_wp2
        go_roundg k1
        case measure => have:=HK1.out;omega
        case rel => exact ⟨(wrap64 (x3_1 + 1)),(by first|rfl|(simp;done)|(simp [*];done)),H',⟨by have:=HK1.out;omega⟩,by repeat (first|exact Drawn0.refl _|apply Drawn0.step)⟩
       ·rw [if_neg c23] at H
        have c23b0:((bt a0 x3_1) == 45)=false:=beq_eq_false_iff_ne.mpr c23;have c23b1:((bt a0 x3_1) != 45)=true:=bne_iff_ne.mpr c23;obtain rfl:=Option.some.inj H;have p4:0 ≤ (x3_1:Int):=of_decide_eq_true (by first|(with_reducible assumption)|assumption);have q4:x3_1 < (a0.size:Int):=of_decide_eq_true (by first|(with_reducible assumption)|assumption);have hx4:=bt_at a0 x3_1;replace p4:=eq_true p4;replace q4:=eq_true q4;have p16:0 ≤ (x3_1:Int):=of_decide_eq_true (by first|(with_reducible assumption)|assumption);have q16:x3_1 < (a0.size:Int):=of_decide_eq_true (by first|(with_reducible assumption)|assumption);have hx16:=bt_at a0 x3_1;replace p16:=eq_true p16;replace q16:=eq_true q16;have p22:0 ≤ (x3_1:Int):=of_decide_eq_true (by first|(with_reducible assumption)|assumption);have q22:x3_1 < (a0.size:Int):=of_decide_eq_true (by first|(with_reducible assumption)|assumption);have hx22:=bt_at a0 x3_1;replace p22:=eq_true p22;replace q22:=eq_true q22
        go_wp2
        go_ret
        exact ⟨by first|rfl|(simp;done)|(simp [*];done),by repeat (first|exact Drawn0.refl _|apply Drawn0.step)⟩
    ·rw [if_neg c3] at H
     exact absurd H (by simp)
   ·rw [if_neg c2] at H
    have c2b0:decide (x3_1 < (a0.size:Int))=false:=decide_eq_false c2;clear c2;replace H:=Option.bind_eq_some_iff.mp H;obtain ⟨t114,A240,H⟩:=H
    try dsimp only at H
    have A24:=Am1_ A240;clear A240
    by_cases c25:t114=true
    ·subst c25
     rw [if_pos rfl] at H
     by_cases c26:0 < (a0.size:Int)
     ·rw [if_pos c26] at H
      have c26b0:decide (0 < (a0.size:Int))=true:=decide_eq_true c26;have c26b1:decide (0 < a0.size)=true:=decide_eq_true (by omega);clear c26
      by_cases c28:(bt a0 0)=45
      ·rw [if_pos c28] at H
       have c28b0:((bt a0 0) == 45)=true:=beq_iff_eq.mpr c28;have c28b1:((bt a0 0) != 45)=false:=bne_eq_false_iff_eq.mpr c28;clear c28;obtain rfl:=Option.some.inj H
       go_wp2_with (first|((with_reducible refine gate_callee (f:=36) rfl ?_);refine goesL_ (some 43) rfl rfl Tryd.func36 (by kernel_rfl) rfl #[.int .i64 (a0.size:Int),.int .i64 1,.int .i64 20] rfl (by (try simp only [List.map_toArray,List.map_cons,List.map_nil]);first|done|rfl|(simp only [List.length_drop,List.length_take];rfl)) ?_;(with_reducible refine (spec_l1In.calls (a0.size:Int) 1 20 true _ A24.out).mono ?_);rintro e w' ⟨rfl,⟨nd,rfl⟩⟩;refine ⟨_,rfl,?_⟩;have p27:0 ≤ (0:Int):=(by omega);have q27:0 < a0.size:=(by have:(0:Int) < (a0.size:Int):=of_decide_eq_true (by first|(with_reducible assumption)|assumption);omega);have hx27:∀ h:0 < a0.size,((a0[0]'h).toNat:Int)=bt a0 0:=bt_at a0 0;clear p27;have qi27:(0 < (a0.size:Int))=True:=eq_true (of_decide_eq_true (by first|(with_reducible assumption)|assumption));replace q27:=eq_true q27))
       go_ret
       exact ⟨by first|rfl|(simp;done)|(simp [*];done),by repeat (first|exact Drawn0.refl _|apply Drawn0.step)⟩
      ·rw [if_neg c28] at H
       have c28b0:((bt a0 0) == 45)=false:=beq_eq_false_iff_ne.mpr c28;have c28b1:((bt a0 0) != 45)=true:=bne_iff_ne.mpr c28;obtain ⟨ji29,hji29⟩:∃ j_:Int,(wrap64 ((a0.size:Int) - 1))=j_:=⟨_,rfl⟩;replace H:(if 0 ≤ (ji29) then (if (ji29) < (a0.size:Int) then (some ((bt a0 (ji29)) != 45)) else (none)) else (none))=some r:=by first|(rw [hji29] at H;exact H)|(simp only [hji29] at H ⊢;exact H)
       (try rw [hji29] at A24);have hji29w:(IntKind.i64.wrap ((a0.size:Int) - 1))=ji29:=(i64_w _).trans hji29
       by_cases c30:0 ≤ (ji29)
       ·rw [if_pos c30] at H
        have c30b0:decide (0 ≤ (ji29))=true:=decide_eq_true c30;clear c30
        by_cases c31:(ji29) < (a0.size:Int)
        ·rw [if_pos c31] at H
         have c31b0:decide ((ji29) < (a0.size:Int))=true:=decide_eq_true c31;clear c31;obtain rfl:=Option.some.inj H
         go_wp2_with (first|((with_reducible refine gate_callee (f:=36) rfl ?_);refine goesL_ (some 43) rfl rfl Tryd.func36 (by kernel_rfl) rfl #[.int .i64 (a0.size:Int),.int .i64 1,.int .i64 20] rfl (by (try simp only [List.map_toArray,List.map_cons,List.map_nil]);first|done|rfl|(simp only [List.length_drop,List.length_take];rfl)) ?_;(with_reducible refine (spec_l1In.calls (a0.size:Int) 1 20 true _ A24.out).mono ?_);rintro e w' ⟨rfl,⟨nd,rfl⟩⟩;refine ⟨_,rfl,?_⟩;have p27:0 ≤ (0:Int):=(by omega);have q27:0 < a0.size:=(by have:(0:Int) < (a0.size:Int):=of_decide_eq_true (by first|(with_reducible assumption)|assumption);omega);have hx27:∀ h:0 < a0.size,((a0[0]'h).toNat:Int)=bt a0 0:=bt_at a0 0;clear p27;have qi27:(0 < (a0.size:Int))=True:=eq_true (of_decide_eq_true (by first|(with_reducible assumption)|assumption));replace q27:=eq_true q27;have p32:0 ≤ ((ji29):Int):=of_decide_eq_true (by first|(with_reducible assumption)|assumption);have q32:(ji29) < (a0.size:Int):=of_decide_eq_true (by first|(with_reducible assumption)|assumption);have hx32:=bt_at a0 (ji29);replace p32:=eq_true p32;replace q32:=eq_true q32))
         go_ret
         exact ⟨by first|rfl|(simp;done)|(simp only [← hji29] <;> (first|rfl|simp))|(simp [*];done),by repeat (first|exact Drawn0.refl _|apply Drawn0.step)⟩
        ·rw [if_neg c31] at H
         exact absurd H (by simp)
       ·rw [if_neg c30] at H
        exact absurd H (by simp)
     ·rw [if_neg c26] at H
      exact absurd H (by simp)
    ·replace c25:=Bool.eq_false_iff.mpr c25;subst c25
     rw [if_neg (show ¬ (false=true) by decide)] at H
     obtain rfl:=Option.some.inj H
     go_wp2_with (first|((with_reducible refine gate_callee (f:=36) rfl ?_);refine goesL_ (some 43) rfl rfl Tryd.func36 (by kernel_rfl) rfl #[.int .i64 (a0.size:Int),.int .i64 1,.int .i64 20] rfl (by (try simp only [List.map_toArray,List.map_cons,List.map_nil]);first|done|rfl|(simp only [List.length_drop,List.length_take];rfl)) ?_;(with_reducible refine (spec_l1In.calls (a0.size:Int) 1 20 false _ A24.out).mono ?_);rintro e w' ⟨rfl,⟨nd,rfl⟩⟩;refine ⟨_,rfl,?_⟩))
     go_ret
     exact ⟨by first|rfl|(simp;done)|(simp [*];done),by repeat (first|exact Drawn0.refl _|apply Drawn0.step)⟩

/-! ### spec_IsHost: function 35 -/
def spec_IsHost.l0:Nat → ByteArray → List ByteArray → Int → Option (Bool)
|0,_,_,_ => none
|k + 1,x0,x3,x4 => if x4 < (x3.length:Int) then (if 0 ≤ x4 then ((spec_l9Label.f k (rdOf ByteArray.empty x3 x4)).bind fun t119 => (if t119=true then (spec_IsHost.l0 k x0 x3 (wrap64 (x4 + 1))) else (some false))) else (none)) else (some (decide ((x0.size:Int) ≤ 60)))
def spec_IsHost.f (k:Nat) (a0:ByteArray):Option (Bool):=(spec_l9Labels.f k a0).bind fun t115 => (spec_IsHost.l0 k a0 t115 0)
theorem spec_IsHost.mono_l:∀ k,(∀ y0 y1 y2,LeO (spec_IsHost.l0 k y0 y1 y2) (spec_IsHost.l0 (k + 1) y0 y1 y2))
|0 => fun _ _ _ r h => by simp [spec_IsHost.l0] at h
|k + 1 => by
  have ih0:=spec_IsHost.mono_l k
  ·intro y0 y1 y2
   unfold spec_IsHost.l0
   repeat' first
  |(with_reducible exact ih0 _ _ _)
  |(with_reducible exact spec_l9Label.mono _ _)
  |(with_reducible exact spec_l9Labels.mono _ _)
  |(with_reducible exact LeO.refl _)
  |(with_reducible exact LeO.none _)
  |(with_reducible refine LeO.ite ?_ ?_)
  |(with_reducible refine LeO.bind ?_ (fun _ => ?_))
  |exact ih0 _ _ _
  |exact spec_l9Label.mono _ _
  |exact spec_l9Labels.mono _ _
  |exact LeO.none _
  |refine LeO.ite ?_ ?_
  |refine LeO.bind ?_ (fun _ => ?_)
theorem spec_IsHost.mono:∀ a0 k,LeO (spec_IsHost.f k a0) (spec_IsHost.f (k + 1) a0):=by
 intro a0 k;have ih0:=spec_IsHost.mono_l k
 unfold spec_IsHost.f
 repeat' first
  |(with_reducible exact ih0 _ _ _)
  |(with_reducible exact spec_l9Label.mono _ _)
  |(with_reducible exact spec_l9Labels.mono _ _)
  |(with_reducible exact LeO.refl _)
  |(with_reducible exact LeO.none _)
  |(with_reducible refine LeO.ite ?_ ?_)
  |(with_reducible refine LeO.bind ?_ (fun _ => ?_))
  |exact ih0 _ _ _
  |exact spec_l9Label.mono _ _
  |exact spec_l9Labels.mono _ _
  |exact LeO.none _
  |refine LeO.ite ?_ ?_
  |refine LeO.bind ?_ (fun _ => ?_)
set_option maxHeartbeats 8000000 in
set_option maxRecDepth 100000 in
theorem spec_IsHost.calls (k:Nat) (a0:ByteArray) (r:Bool) (w:World) (h:spec_IsHost.f k a0=some r) :
  Calls Tryd.prog 35 #[.string a0] w fun e w' => e=.returned (.bool r)∧Below w.heap.size w w':=by
 have HB:=Am1_ (Below.refl w.heap.size w);have H:((spec_l9Labels.f k a0).bind fun t115 => (spec_IsHost.l0 k a0 t115 0))=some r:=h;clear h;replace H:=Option.bind_eq_some_iff.mp H;obtain ⟨t115,A20,H⟩:=H
 try dsimp only at H
 have A2:=Am1_ A20;clear A20;have H':=Am1_ H;clear H
 go_enter Tryd.func35,Tryd.ntmps35
 go_wp2_with (first|((with_reducible refine gate_callee (f:=45) rfl ?_);refine goesL_ (some 6) rfl rfl Tryd.func45 (by kernel_rfl) rfl #[.string a0] rfl (by (try simp only [List.map_toArray,List.map_cons,List.map_nil]);first|done|rfl|(simp only [List.length_drop,List.length_take];rfl)) ?_;(with_reducible refine (spec_l9Labels.calls k a0 t115 _ A2.out).mono ?_);rintro e w3 ⟨v116,rfl,ho0,hb⟩;refine ⟨_,rfl,?_⟩;have n0_:=Am1_ (Kd.R_lower ho0 (below_size (xe_ HB)));have n1_:=bs_ HB hb;clear HB;have HO117:=n0_;have HB:=n1_;clear n0_ n1_;(try clear hb);(try clear hb2);(try clear hk);(try clear hi);(try clear ho0)))
 go_loopg [4] k (fun kq v4 w' => ∃ (x4_1:Int),v4=.int .i64 x4_1∧Aside0 (spec_IsHost.l0 kq a0 t115 x4_1=some r)∧Aside0 (kq ≤ k)∧Aside0 (Kd.R Kd.string 9 w' w.heap.size (fun _ => True) v116 t115)∧Aside0 (Below w.heap.size w w'))
 case atStart => exact ⟨(0),(by first|rfl|(simp;done)|(simp [*];done)),H',⟨Nat.le_refl _⟩,⟨by (with_reducible repeat (first|apply Kd.R_alloc|apply Kd.R_drewN|apply Kd.R_drew));exact HO117.out⟩,⟨by repeat (first|(with_reducible first|exact HB.out|apply below_alloc|apply pw_below_drewN|apply below_drew1)|exact HB.out)⟩⟩
 case round =>
  clear H'
  try clear p2
  try clear c3
  obtain ⟨x4_1,rfl,HA,HK1,HO_3,HB⟩:=hrel
  cases gk with
 |zero => exact absurd HA.out (by simp [spec_IsHost.l0])
 |succ k1 =>
   have H:=HA.out;clear HA;simp only [spec_IsHost.l0] at H
   by_cases c4:x4_1 < (t115.length:Int)
   ·rw [if_pos c4] at H
    have c4b0:decide (x4_1 < (t115.length:Int))=true:=decide_eq_true c4;clear c4
    by_cases c5:0 ≤ x4_1
    ·rw [if_pos c5] at H
     have c5b0:decide (0 ≤ x4_1)=true:=decide_eq_true c5;clear c5;replace H:=Option.bind_eq_some_iff.mp H;obtain ⟨t119,A60,H⟩:=H
     try dsimp only at H
     have A6:=Am1_ A60;clear A60
     by_cases c7:t119=true
     ·subst c7
      rw [if_pos rfl] at H
      have H':=Am1_ H;clear H;obtain ⟨Ao8,co8,eo8⟩:=Kd.R_slice HO_3.out;subst eo8;have p118:0 ≤ (x4_1:Int):=of_decide_eq_true (by first|(with_reducible assumption)|assumption);have q118:x4_1 < (t115.length:Int):=of_decide_eq_true (by first|(with_reducible assumption)|assumption);obtain ⟨ad118,e118,hx118_0⟩:=Kd.at_string (Kd.R_reads' HO_3.out).2.2 x4_1 p118 q118
      cases e118
      replace p118:=eq_true p118;replace q118:=eq_true q118
      go_wp2_with (first|((with_reducible refine gate_callee (f:=58) rfl ?_);refine goesL_ (some 17) rfl rfl Tryd.func58 (by kernel_rfl) rfl #[.string (rdOf ByteArray.empty t115 x4_1)] rfl (by (try simp only [List.map_toArray,List.map_cons,List.map_nil]);first|done|rfl|(simp only [List.length_drop,List.length_take];rfl)) ?_;(with_reducible refine (spec_l9Label.calls k1 (rdOf ByteArray.empty t115 x4_1) true _ A6.out).mono ?_);rintro e w' ⟨rfl,⟨nd,rfl⟩⟩;refine ⟨_,rfl,?_⟩))
      go_roundg k1
      case measure => have:=HK1.out;omega
      case rel => exact ⟨(wrap64 (x4_1 + 1)),(by first|rfl|(simp;done)|(simp [*];done)),H',⟨by have:=HK1.out;omega⟩,⟨by (with_reducible repeat (first|apply Kd.R_alloc|apply Kd.R_drewN|apply Kd.R_drew));exact HO_3.out⟩,⟨by repeat (first|(with_reducible first|exact HB.out|apply below_alloc|apply pw_below_drewN|apply below_drew1)|exact HB.out)⟩⟩
     ·replace c7:=Bool.eq_false_iff.mpr c7;subst c7
      rw [if_neg (show ¬ (false=true) by decide)] at H
      obtain rfl:=Option.some.inj H;obtain ⟨Ao9,co9,eo9⟩:=Kd.R_slice HO_3.out;subst eo9;have p118:0 ≤ (x4_1:Int):=of_decide_eq_true (by first|(with_reducible assumption)|assumption);have q118:x4_1 < (t115.length:Int):=of_decide_eq_true (by first|(with_reducible assumption)|assumption);obtain ⟨ad118,e118,hx118_0⟩:=Kd.at_string (Kd.R_reads' HO_3.out).2.2 x4_1 p118 q118
      cases e118
      replace p118:=eq_true p118;replace q118:=eq_true q118
      go_wp2_with (first|((with_reducible refine gate_callee (f:=58) rfl ?_);refine goesL_ (some 17) rfl rfl Tryd.func58 (by kernel_rfl) rfl #[.string (rdOf ByteArray.empty t115 x4_1)] rfl (by (try simp only [List.map_toArray,List.map_cons,List.map_nil]);first|done|rfl|(simp only [List.length_drop,List.length_take];rfl)) ?_;(with_reducible refine (spec_l9Label.calls k1 (rdOf ByteArray.empty t115 x4_1) false _ A6.out).mono ?_);rintro e w' ⟨rfl,⟨nd,rfl⟩⟩;refine ⟨_,rfl,?_⟩))
      go_ret
      exact ⟨by first|rfl|(simp [errW_none,errW_some] <;> rfl)|(simp [*,errW_none,errW_some] <;> rfl),by repeat (first|(with_reducible first|exact HB.out|apply below_alloc|apply pw_below_drewN|apply below_drew1)|exact HB.out)⟩
    ·rw [if_neg c5] at H
     exact absurd H (by simp)
   ·rw [if_neg c4] at H
    have c4b0:decide (x4_1 < (t115.length:Int))=false:=decide_eq_false c4;clear c4;obtain rfl:=Option.some.inj H;obtain ⟨Ao10,co10,eo10⟩:=Kd.R_slice HO_3.out;subst eo10
    go_wp2
    go_ret
    exact ⟨by first|rfl|(simp [errW_none,errW_some] <;> rfl)|(simp [*,errW_none,errW_some] <;> rfl),by repeat (first|(with_reducible first|exact HB.out|apply below_alloc|apply pw_below_drewN|apply below_drew1)|exact HB.out)⟩

end Go.Proofs.YtogcoedmagoogaaDoor.PFnExactMakeAssertion
