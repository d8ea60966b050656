/- Functions and contracts of a law's callees, written by a program of this session (a changed print): each contract says that the machine's call answers what the plain function says. Conditions: the plain function's own answer. -/
import Derived.Test.YtogcoedmagoogaaGreatDoorZPFnExactCheckAssertionx0
import Derived.Test.YtogcoedmagoogaaGreatDoorZPFnExactCheckAssertionx6
namespace Go.Proofs.YtogcoedmagoogaaGreatDoor.PFnExactCheckAssertion
open Go.RowKit Go.Proofs.YtogcoedmagoogaaGreatDoorW.PrintWords Go.Proofs.YtogcoedmagoogaaGreatDoorW.PrintLast Go.Proofs.YtogcoedmagoogaaGreatDoorW.PrintMore
attribute [local go_sem] max2_int min2_int max_two min_two max_three min_three max_four min_four   -- for this text's walks alone
set_option linter.unusedVariables false
set_option linter.unusedSimpArgs false
abbrev Am7_ {p : Prop} (h : p) : Aside0 p := Aside0.mk h

namespace Y7
class Ex_ (w W:World):Prop where
 k:∀ {g:Nat} {o:Obj},w.heap[g]?=some o → W.heap[g]?=some o
 e:∀ {v:World},Below v.heap.size v w → Below v.heap.size v W
instance (priority:=low) Ex_.rf (w:World):Ex_ w w:=⟨fun h => h,fun h => h⟩
instance Ex_.dn {w W:World} [x:Ex_ w W] (n:Nat):Ex_ w (W.drewN n):=⟨fun h => blk_drewN (x.k h) n,fun h => pw_below_drewN (x.e h) n⟩
instance Ex_.dr {w W:World} [x:Ex_ w W]:Ex_ w W.drew:=⟨fun h => blk_drew (x.k h),fun h => below_drew1 (x.e h)⟩
instance Ex_.al {w W:World} [x:Ex_ w W] (o:Obj):Ex_ w (W.alloc o):=⟨fun h => blk_alloc (x.k h) o,fun h => below_alloc (x.e h) o⟩
theorem xk_ {w W:World} {g:Nat} {o:Obj} (h:Aside0 (w.heap[g]?=some o)) [x:Ex_ w W]:W.heap[g]?=some o:=x.k h.out
theorem ne1_ {w W:World} {g g':Nat} {o:Obj} (hg:g'=W.heap.size) (h:Aside0 (w.heap[g]?=some o)) [x:Ex_ w W]:Aside0 (g ≠ g'):=Am7_ (by rw [hg];exact Nat.ne_of_lt (blk_lt (x.k h.out)))
theorem ne2_ {w W:World} {g g':Nat} {o:Obj} (hg:g'=W.heap.size) (h:Aside0 (w.heap[g]?=some o)) [x:Ex_ w W]:Aside0 (g' ≠ g):=Am7_ (by rw [hg];exact Nat.ne_of_gt (blk_lt (x.k h.out)))
theorem gw_ {v w W:World} {g':Nat} (hg:g'=W.heap.size) (h:Aside0 (Below v.heap.size v w)) [x:Ex_ w W]:Aside0 (v.heap.size ≤ g'):=Am7_ (by rw [hg];exact below_size (x.e h.out))
theorem bb_ {w W W':World} {g:Nat} {o:Obj} (h:Aside0 (w.heap[g]?=some o)) (hb:Below W.heap.size W W') [x:Ex_ w W]:Aside0 (W'.heap[g]?=some o):=Am7_ (blk_below (x.k h.out) hb)
theorem bs_ {v w W W':World} (h:Aside0 (Below v.heap.size v w)) (hb:Below W.heap.size W W') [x:Ex_ w W]:Aside0 (Below v.heap.size v W'):=Am7_ (below_step (x.e h.out) hb)
theorem xe_ {v w W:World} (h:Aside0 (Below v.heap.size v w)) [x:Ex_ w W]:Below v.heap.size v W:=x.e h.out
end Y7
open Y7

namespace Y7
abbrev Sa_ := @List.setIfInBounds_toArray
abbrev Sb_ := @List.set_cons_zero
abbrev Sc_ := @List.set_cons_succ
theorem q_ {w W : World} {g : Nat} {t : TypeId} {cs : Array Value} (h : Aside0 (w.heap[g]? = some (.cells cs t (0, 0)))) (i : Nat) {v : Option Value} (e : cs[i]? = v) [x : Ex_ w W] : W.cell? ⟨g, i, none⟩ = v := (blk_cell (x.k h.out) i).trans e
end Y7
open Y7
/-! ### spec_MayUse: function 19 -/
def spec_MayUse.f (k:Nat) (a0_0:Bool) (a0_1:ByteArray) (a0_2:Int) (a1:ByteArray):Option (Bool):=(spec_IsOrigin.f k a0_0 a0_1 a0_2).bind fun t228 => (if t228=true then (if a0_0=true then ((spec_IsHost.f k a1).bind fun t229 => (if t229=true then ((spec_l9Labels.f k a1).bind fun t230 => (if (t230.length:Int) < 2 then (some false) else (if a0_1.toList=a1.toList then (some true) else (if (wrap64 ((a0_1.size:Int) - (a1.size:Int))) > 0 then (if 0 ≤ (wrap64 ((a0_1.size:Int) - (a1.size:Int))) then (if (wrap64 ((a0_1.size:Int) - (a1.size:Int))) ≤ (a0_1.size:Int) then (if (a0_1.extract ((wrap64 ((a0_1.size:Int) - (a1.size:Int))):Int).toNat a0_1.size).toList=a1.toList then (if 0 ≤ (wrap64 ((wrap64 ((a0_1.size:Int) - (a1.size:Int))) - 1)) then (if (wrap64 ((wrap64 ((a0_1.size:Int) - (a1.size:Int))) - 1)) < (a0_1.size:Int) then (some ((bt a0_1 (wrap64 ((wrap64 ((a0_1.size:Int) - (a1.size:Int))) - 1))) == 46)) else (none)) else (none)) else (some false)) else (none)) else (none)) else (some false))))) else (some false))) else (some false)) else (some false))
theorem spec_MayUse.mono:∀ a0 a1 a2 a3 k,LeO (spec_MayUse.f k a0 a1 a2 a3) (spec_MayUse.f (k + 1) a0 a1 a2 a3):=by
 intro a0 a1 a2 a3 k
 unfold spec_MayUse.f
 repeat' first
  |(with_reducible exact spec_IsHost.mono _ _)
  |(with_reducible exact spec_IsOrigin.mono _ _ _ _)
  |(with_reducible exact spec_l9Labels.mono _ _)
  |(with_reducible exact LeO.refl _)
  |(with_reducible exact LeO.none _)
  |(with_reducible refine LeO.ite ?_ ?_)
  |(with_reducible refine LeO.bind ?_ (fun _ => ?_))
  |exact spec_IsHost.mono _ _
  |exact spec_IsOrigin.mono _ _ _ _
  |exact spec_l9Labels.mono _ _
  |exact LeO.none _
  |refine LeO.ite ?_ ?_
  |refine LeO.bind ?_ (fun _ => ?_)
set_option maxHeartbeats 8000000 in
set_option maxRecDepth 100000 in
theorem spec_MayUse.calls (k:Nat) (a0_0:Bool) (a0_1:ByteArray) (a0_2:Int) (a1:ByteArray) (r:Bool) (w:World) (h:spec_MayUse.f k a0_0 a0_1 a0_2 a1=some r) :
  Calls Tryz.prog 19 #[.agg #[.bool a0_0,.string a0_1,.int .i64 a0_2],.string a1] w fun e w' => e=.returned (.bool r)∧Below w.heap.size w w':=by
 have hu28:=Tryz.underlying28;have HB:=Am7_ (Below.refl w.heap.size w);have H:=h;unfold spec_MayUse.f at H;clear h;replace H:=Option.bind_eq_some_iff.mp H;obtain ⟨t228,A30,H⟩:=H
 try dsimp only at H
 have A3:=Am7_ A30;clear A30
 by_cases c4:t228=true
 ·subst c4
  rw [if_pos rfl] at H
  by_cases c5:a0_0=true
  ·subst c5
   rw [if_pos rfl] at H
   replace H:=Option.bind_eq_some_iff.mp H;obtain ⟨t229,A60,H⟩:=H
   try dsimp only at H
   have A6:=Am7_ A60;clear A60
   by_cases c7:t229=true
   ·subst c7
    rw [if_pos rfl] at H
    replace H:=Option.bind_eq_some_iff.mp H;obtain ⟨t230,A80,H⟩:=H
    try dsimp only at H
    have A8:=Am7_ A80;clear A80
    by_cases c9:(t230.length:Int) < 2
    ·rw [if_pos c9] at H
     have c9b0:decide ((t230.length:Int) < 2)=true:=decide_eq_true c9;have c9b1:decide (t230.length < 2)=true:=decide_eq_true (by omega);clear c9;obtain rfl:=Option.some.inj H
     go_enter Tryz.func19,Tryz.ntmps19
     go_wp2_with (first|((with_reducible refine gate_dst (N:=2) rfl ?_);(try (refine gate_guard (by rfl) ?_;dsimp only));refine box_event ?hg (N:=2) ?hd (cs:=#[.bool true,.string a0_1,.int .i64 a0_2]) (t:=28) ?hr ?_;(case hd => rfl);(case hg => rfl);(case hr => first|(go_simp;done)|(go_simp;rfl));intro gb227 hg w10 hbox hb;have n0_:=bs_ HB hb;have n1_:=Am7_ (hbox);have n2_:=gw_ hg HB;have n3_:=gw_ hg HB;clear HB;have HB:=n0_;have BK227:=n1_;have GW227:=n2_;have GE227:=n3_;clear n0_ n1_ n2_ n3_;clear hb hbox hg;have hcz11_0:w10.cell? ⟨gb227,0,none⟩=some (.bool true):=q_ BK227 0 rfl;have hcz11_1:w10.cell? ⟨gb227,1,none⟩=some (.string a0_1):=q_ BK227 1 rfl;have hcz11_2:w10.cell? ⟨gb227,2,none⟩=some (.int .i64 a0_2):=q_ BK227 2 rfl;have hfz11_0:=blk_frozen BK227.out 0;have hfz11_1:=blk_frozen BK227.out 1;have hfz11_2:=blk_frozen BK227.out 2)|((with_reducible refine gate_callee (f:=28) rfl ?_);refine goesL_ (some 7) rfl rfl Tryz.func28 (by kernel_rfl) rfl #[.agg #[.bool true,.string a0_1,.int .i64 a0_2]] rfl (by (try simp only [List.map_toArray,List.map_cons,List.map_nil]);first|done|rfl|(simp only [List.length_drop,List.length_take];rfl)) ?_;(with_reducible refine (spec_IsOrigin.calls k true a0_1 a0_2 true _ A3.out).mono ?_);rintro e w12 ⟨rfl,hb⟩;refine ⟨_,rfl,?_⟩;have n0_:=bb_ BK227 hb;have n1_:=bs_ HB hb;clear BK227;clear HB;have BK227:=n0_;have HB:=n1_;clear n0_ n1_;(try clear hb);(try clear hb2);(try clear hk);(try clear hi);have hcz13_0:w12.cell? ⟨gb227,0,none⟩=some (.bool true):=q_ BK227 0 rfl;have hcz13_1:w12.cell? ⟨gb227,1,none⟩=some (.string a0_1):=q_ BK227 1 rfl;have hcz13_2:w12.cell? ⟨gb227,2,none⟩=some (.int .i64 a0_2):=q_ BK227 2 rfl;have hfz13_0:=blk_frozen BK227.out 0;have hfz13_1:=blk_frozen BK227.out 1;have hfz13_2:=blk_frozen BK227.out 2)|(go_at_call 45;(with_reducible refine (spec_IsHost.calls k a1 true _ A6.out).mono ?_);rintro e w14 ⟨rfl,hb⟩;have n0_:=bb_ BK227 hb;have n1_:=bs_ HB hb;clear BK227;clear HB;have BK227:=n0_;have HB:=n1_;clear n0_ n1_;(try clear hb);(try clear hb2);(try clear hk);(try clear hi))|(go_at_call 46;(with_reducible refine (spec_l9Labels.calls k a1 t230 _ A8.out).mono ?_);rintro e w15 ⟨v231,rfl,ho0,hb⟩;have n0_:=Am7_ (Kd.R_lower ho0 (below_size (xe_ HB)));have n1_:=bb_ BK227 hb;have n2_:=bs_ HB hb;clear BK227;clear HB;have HO232:=n0_;have BK227:=n1_;have HB:=n2_;clear n0_ n1_ n2_;(try clear hb);(try clear hb2);(try clear hk);(try clear hi);(try clear ho0);obtain ⟨Ao16,co16,eo16⟩:=Kd.R_slice HO232.out;subst eo16))
     go_ret
     exact ⟨by first|rfl|(simp [errW_none,errW_some] <;> rfl)|(simp [*,errW_none,errW_some] <;> rfl),by repeat (first|(with_reducible first|exact HB.out|apply below_alloc|apply pw_below_drewN|apply below_drew1|refine below_set ?_ GE227.out)|exact HB.out)⟩
    ·rw [if_neg c9] at H
     have c9b0:decide ((t230.length:Int) < 2)=false:=decide_eq_false c9;have c9b1:decide (t230.length < 2)=false:=decide_eq_false (by omega);clear c9
     by_cases c17:a0_1.toList=a1.toList
     ·rw [if_pos c17] at H
      have c17b0:(a0_1.toList == a1.toList)=true:=beq_iff_eq.mpr c17;have c17b1:(a0_1.toList != a1.toList)=false:=bne_eq_false_iff_eq.mpr c17;clear c17;obtain rfl:=Option.some.inj H
      go_enter Tryz.func19,Tryz.ntmps19
      go_wp2_with (first|((with_reducible refine gate_dst (N:=2) rfl ?_);(try (refine gate_guard (by rfl) ?_;dsimp only));refine box_event ?hg (N:=2) ?hd (cs:=#[.bool true,.string a0_1,.int .i64 a0_2]) (t:=28) ?hr ?_;(case hd => rfl);(case hg => rfl);(case hr => first|(go_simp;done)|(go_simp;rfl));intro gb227 hg w18 hbox hb;have n0_:=bs_ HB hb;have n1_:=Am7_ (hbox);have n2_:=gw_ hg HB;have n3_:=gw_ hg HB;clear HB;have HB:=n0_;have BK227:=n1_;have GW227:=n2_;have GE227:=n3_;clear n0_ n1_ n2_ n3_;clear hb hbox hg;have hcz19_0:w18.cell? ⟨gb227,0,none⟩=some (.bool true):=q_ BK227 0 rfl;have hcz19_1:w18.cell? ⟨gb227,1,none⟩=some (.string a0_1):=q_ BK227 1 rfl;have hcz19_2:w18.cell? ⟨gb227,2,none⟩=some (.int .i64 a0_2):=q_ BK227 2 rfl;have hfz19_0:=blk_frozen BK227.out 0;have hfz19_1:=blk_frozen BK227.out 1;have hfz19_2:=blk_frozen BK227.out 2)|((with_reducible refine gate_callee (f:=28) rfl ?_);refine goesL_ (some 7) rfl rfl Tryz.func28 (by kernel_rfl) rfl #[.agg #[.bool true,.string a0_1,.int .i64 a0_2]] rfl (by (try simp only [List.map_toArray,List.map_cons,List.map_nil]);first|done|rfl|(simp only [List.length_drop,List.length_take];rfl)) ?_;(with_reducible refine (spec_IsOrigin.calls k true a0_1 a0_2 true _ A3.out).mono ?_);rintro e w20 ⟨rfl,hb⟩;refine ⟨_,rfl,?_⟩;have n0_:=bb_ BK227 hb;have n1_:=bs_ HB hb;clear BK227;clear HB;have BK227:=n0_;have HB:=n1_;clear n0_ n1_;(try clear hb);(try clear hb2);(try clear hk);(try clear hi);have hcz21_0:w20.cell? ⟨gb227,0,none⟩=some (.bool true):=q_ BK227 0 rfl;have hcz21_1:w20.cell? ⟨gb227,1,none⟩=some (.string a0_1):=q_ BK227 1 rfl;have hcz21_2:w20.cell? ⟨gb227,2,none⟩=some (.int .i64 a0_2):=q_ BK227 2 rfl;have hfz21_0:=blk_frozen BK227.out 0;have hfz21_1:=blk_frozen BK227.out 1;have hfz21_2:=blk_frozen BK227.out 2)|(go_at_call 45;(with_reducible refine (spec_IsHost.calls k a1 true _ A6.out).mono ?_);rintro e w22 ⟨rfl,hb⟩;have n0_:=bb_ BK227 hb;have n1_:=bs_ HB hb;clear BK227;clear HB;have BK227:=n0_;have HB:=n1_;clear n0_ n1_;(try clear hb);(try clear hb2);(try clear hk);(try clear hi))|(go_at_call 46;(with_reducible refine (spec_l9Labels.calls k a1 t230 _ A8.out).mono ?_);rintro e w23 ⟨v231,rfl,ho0,hb⟩;have n0_:=Am7_ (Kd.R_lower ho0 (below_size (xe_ HB)));have n1_:=bb_ BK227 hb;have n2_:=bs_ HB hb;clear BK227;clear HB;have HO232:=n0_;have BK227:=n1_;have HB:=n2_;clear n0_ n1_ n2_;(try clear hb);(try clear hb2);(try clear hk);(try clear hi);(try clear ho0);obtain ⟨Ao24,co24,eo24⟩:=Kd.R_slice HO232.out;subst eo24;have hcz25_0:w23.cell? ⟨gb227,0,none⟩=some (.bool true):=q_ BK227 0 rfl;have hcz25_1:w23.cell? ⟨gb227,1,none⟩=some (.string a0_1):=q_ BK227 1 rfl;have hcz25_2:w23.cell? ⟨gb227,2,none⟩=some (.int .i64 a0_2):=q_ BK227 2 rfl;have hfz25_0:=blk_frozen BK227.out 0;have hfz25_1:=blk_frozen BK227.out 1;have hfz25_2:=blk_frozen BK227.out 2))
      go_ret
      exact ⟨by first|rfl|(simp [errW_none,errW_some] <;> rfl)|(simp [*,errW_none,errW_some] <;> rfl),by repeat (first|(with_reducible first|exact HB.out|apply below_alloc|apply pw_below_drewN|apply below_drew1|refine below_set ?_ GE227.out)|exact HB.out)⟩
     ·rw [if_neg c17] at H
      have c17b0:(a0_1.toList == a1.toList)=false:=beq_eq_false_iff_ne.mpr c17;have c17b1:(a0_1.toList != a1.toList)=true:=bne_iff_ne.mpr c17
      by_cases c26:(wrap64 ((a0_1.size:Int) - (a1.size:Int))) > 0
      ·rw [if_pos c26] at H
       have c26b0:decide (0 < (wrap64 ((a0_1.size:Int) - (a1.size:Int))))=true:=decide_eq_true c26;clear c26;obtain ⟨ji27,hji27⟩:∃ j_:Int,(wrap64 ((a0_1.size:Int) - (a1.size:Int)))=j_:=⟨_,rfl⟩;replace H:(if 0 ≤ (ji27) then (if (ji27) ≤ (a0_1.size:Int) then (if (a0_1.extract ((ji27):Int).toNat a0_1.size).toList=a1.toList then (if 0 ≤ (wrap64 ((ji27) - 1)) then (if (wrap64 ((ji27) - 1)) < (a0_1.size:Int) then (some ((bt a0_1 (wrap64 ((ji27) - 1))) == 46)) else (none)) else (none)) else (some false)) else (none)) else (none))=some r:=by first|(rw [hji27] at H;exact H)|(simp only [hji27] at H ⊢;exact H)
       (try rw [hji27] at c26b0);(try rw [hji27] at A3);(try rw [hji27] at A6);(try rw [hji27] at A8);have hji27w:(IntKind.i64.wrap ((a0_1.size:Int) - (a1.size:Int)))=ji27:=(i64_w _).trans hji27
       by_cases c28:0 ≤ (ji27)
       ·rw [if_pos c28] at H
        have c28b0:=eq_true c28;have c28b1:decide (0 ≤ (ji27))=true:=decide_eq_true c28;clear c28
        by_cases c29:(ji27) ≤ (a0_1.size:Int)
        ·rw [if_pos c29] at H
         have c29b0:=eq_true c29;have c29b1:decide ((ji27) ≤ (a0_1.size:Int))=true:=decide_eq_true c29;clear c29
         by_cases c30:(a0_1.extract ((ji27):Int).toNat a0_1.size).toList=a1.toList
         ·rw [if_pos c30] at H
          have c30b0:((a0_1.extract ((ji27):Int).toNat a0_1.size).toList == a1.toList)=true:=beq_iff_eq.mpr c30;have c30b1:((a0_1.extract ((ji27):Int).toNat a0_1.size).toList != a1.toList)=false:=bne_eq_false_iff_eq.mpr c30;clear c30;obtain ⟨ji31,hji31⟩:∃ j_:Int,(wrap64 ((ji27) - 1))=j_:=⟨_,rfl⟩;replace H:(if 0 ≤ (ji31) then (if (ji31) < (a0_1.size:Int) then (some ((bt a0_1 (ji31)) == 46)) else (none)) else (none))=some r:=by first|(rw [hji31] at H;exact H)|(simp only [hji31] at H ⊢;exact H)
          (try rw [hji31] at A3);(try rw [hji31] at A6);(try rw [hji31] at A8);have hji31w:(IntKind.i64.wrap ((ji27) - 1))=ji31:=(i64_w _).trans hji31
          by_cases c32:0 ≤ (ji31)
          ·rw [if_pos c32] at H
           have c32b0:decide (0 ≤ (ji31))=true:=decide_eq_true c32;clear c32
           by_cases c33:(ji31) < (a0_1.size:Int)
           ·rw [if_pos c33] at H
            have c33b0:decide ((ji31) < (a0_1.size:Int))=true:=decide_eq_true c33;clear c33;obtain rfl:=Option.some.inj H
            go_enter Tryz.func19,Tryz.ntmps19
            go_wp2_with (first|((with_reducible refine gate_dst (N:=2) rfl ?_);(try (refine gate_guard (by rfl) ?_;dsimp only));refine box_event ?hg (N:=2) ?hd (cs:=#[.bool true,.string a0_1,.int .i64 a0_2]) (t:=28) ?hr ?_;(case hd => rfl);(case hg => rfl);(case hr => first|(go_simp;done)|(go_simp;rfl));intro gb227 hg w35 hbox hb;have n0_:=bs_ HB hb;have n1_:=Am7_ (hbox);have n2_:=gw_ hg HB;have n3_:=gw_ hg HB;clear HB;have HB:=n0_;have BK227:=n1_;have GW227:=n2_;have GE227:=n3_;clear n0_ n1_ n2_ n3_;clear hb hbox hg;have hcz36_0:w35.cell? ⟨gb227,0,none⟩=some (.bool true):=q_ BK227 0 rfl;have hcz36_1:w35.cell? ⟨gb227,1,none⟩=some (.string a0_1):=q_ BK227 1 rfl;have hcz36_2:w35.cell? ⟨gb227,2,none⟩=some (.int .i64 a0_2):=q_ BK227 2 rfl;have hfz36_0:=blk_frozen BK227.out 0;have hfz36_1:=blk_frozen BK227.out 1;have hfz36_2:=blk_frozen BK227.out 2)|((with_reducible refine gate_callee (f:=28) rfl ?_);refine goesL_ (some 7) rfl rfl Tryz.func28 (by kernel_rfl) rfl #[.agg #[.bool true,.string a0_1,.int .i64 a0_2]] rfl (by (try simp only [List.map_toArray,List.map_cons,List.map_nil]);first|done|rfl|(simp only [List.length_drop,List.length_take];rfl)) ?_;(with_reducible refine (spec_IsOrigin.calls k true a0_1 a0_2 true _ A3.out).mono ?_);rintro e w37 ⟨rfl,hb⟩;refine ⟨_,rfl,?_⟩;have n0_:=bb_ BK227 hb;have n1_:=bs_ HB hb;clear BK227;clear HB;have BK227:=n0_;have HB:=n1_;clear n0_ n1_;(try clear hb);(try clear hb2);(try clear hk);(try clear hi);have hcz38_0:w37.cell? ⟨gb227,0,none⟩=some (.bool true):=q_ BK227 0 rfl;have hcz38_1:w37.cell? ⟨gb227,1,none⟩=some (.string a0_1):=q_ BK227 1 rfl;have hcz38_2:w37.cell? ⟨gb227,2,none⟩=some (.int .i64 a0_2):=q_ BK227 2 rfl;have hfz38_0:=blk_frozen BK227.out 0;have hfz38_1:=blk_frozen BK227.out 1;have hfz38_2:=blk_frozen BK227.out 2)|(go_at_call 45;(with_reducible refine (spec_IsHost.calls k a1 true _ A6.out).mono ?_);rintro e w39 ⟨rfl,hb⟩;have n0_:=bb_ BK227 hb;have n1_:=bs_ HB hb;clear BK227;clear HB;have BK227:=n0_;have HB:=n1_;clear n0_ n1_;(try clear hb);(try clear hb2);(try clear hk);(try clear hi))|(go_at_call 46;(with_reducible refine (spec_l9Labels.calls k a1 t230 _ A8.out).mono ?_);rintro e w40 ⟨v231,rfl,ho0,hb⟩;have n0_:=Am7_ (Kd.R_lower ho0 (below_size (xe_ HB)));have n1_:=bb_ BK227 hb;have n2_:=bs_ HB hb;clear BK227;clear HB;have HO232:=n0_;have BK227:=n1_;have HB:=n2_;clear n0_ n1_ n2_;(try clear hb);(try clear hb2);(try clear hk);(try clear hi);(try clear ho0);obtain ⟨Ao41,co41,eo41⟩:=Kd.R_slice HO232.out;subst eo41;have hcz42_0:w40.cell? ⟨gb227,0,none⟩=some (.bool true):=q_ BK227 0 rfl;have hcz42_1:w40.cell? ⟨gb227,1,none⟩=some (.string a0_1):=q_ BK227 1 rfl;have hcz42_2:w40.cell? ⟨gb227,2,none⟩=some (.int .i64 a0_2):=q_ BK227 2 rfl;have hfz42_0:=blk_frozen BK227.out 0;have hfz42_1:=blk_frozen BK227.out 1;have hfz42_2:=blk_frozen BK227.out 2;have p34:0 ≤ ((ji31):Int):=of_decide_eq_true (by first|(with_reducible assumption)|assumption);have q34:(ji31) < (a0_1.size:Int):=of_decide_eq_true (by first|(with_reducible assumption)|assumption);have hx34:=bt_at a0_1 (ji31);replace p34:=eq_true p34;replace q34:=eq_true q34))
            go_ret
            exact ⟨by first|rfl|(simp [errW_none,errW_some] <;> rfl)|(simp only [← hji27,← hji31];first|rfl|(simp [errW_none,errW_some] <;> rfl))|(simp [*,errW_none,errW_some] <;> rfl),by repeat (first|(with_reducible first|exact HB.out|apply below_alloc|apply pw_below_drewN|apply below_drew1|refine below_set ?_ GE227.out)|exact HB.out)⟩
           ·rw [if_neg c33] at H
            exact absurd H (by simp)
          ·rw [if_neg c32] at H
           exact absurd H (by simp)
         ·rw [if_neg c30] at H
          have c30b0:((a0_1.extract ((ji27):Int).toNat a0_1.size).toList == a1.toList)=false:=beq_eq_false_iff_ne.mpr c30;have c30b1:((a0_1.extract ((ji27):Int).toNat a0_1.size).toList != a1.toList)=true:=bne_iff_ne.mpr c30;obtain rfl:=Option.some.inj H
          go_enter Tryz.func19,Tryz.ntmps19
          go_wp2_with (first|((with_reducible refine gate_dst (N:=2) rfl ?_);(try (refine gate_guard (by rfl) ?_;dsimp only));refine box_event ?hg (N:=2) ?hd (cs:=#[.bool true,.string a0_1,.int .i64 a0_2]) (t:=28) ?hr ?_;(case hd => rfl);(case hg => rfl);(case hr => first|(go_simp;done)|(go_simp;rfl));intro gb227 hg w43 hbox hb;have n0_:=bs_ HB hb;have n1_:=Am7_ (hbox);have n2_:=gw_ hg HB;have n3_:=gw_ hg HB;clear HB;have HB:=n0_;have BK227:=n1_;have GW227:=n2_;have GE227:=n3_;clear n0_ n1_ n2_ n3_;clear hb hbox hg;have hcz44_0:w43.cell? ⟨gb227,0,none⟩=some (.bool true):=q_ BK227 0 rfl;have hcz44_1:w43.cell? ⟨gb227,1,none⟩=some (.string a0_1):=q_ BK227 1 rfl;have hcz44_2:w43.cell? ⟨gb227,2,none⟩=some (.int .i64 a0_2):=q_ BK227 2 rfl;have hfz44_0:=blk_frozen BK227.out 0;have hfz44_1:=blk_frozen BK227.out 1;have hfz44_2:=blk_frozen BK227.out 2)|((with_reducible refine gate_callee (f:=28) rfl ?_);refine goesL_ (some 7) rfl rfl Tryz.func28 (by kernel_rfl) rfl #[.agg #[.bool true,.string a0_1,.int .i64 a0_2]] rfl (by (try simp only [List.map_toArray,List.map_cons,List.map_nil]);first|done|rfl|(simp only [List.length_drop,List.length_take];rfl)) ?_;(with_reducible refine (spec_IsOrigin.calls k true a0_1 a0_2 true _ A3.out).mono ?_);rintro e w45 ⟨rfl,hb⟩;refine ⟨_,rfl,?_⟩;have n0_:=bb_ BK227 hb;have n1_:=bs_ HB hb;clear BK227;clear HB;have BK227:=n0_;have HB:=n1_;clear n0_ n1_;(try clear hb);(try clear hb2);(try clear hk);(try clear hi);have hcz46_0:w45.cell? ⟨gb227,0,none⟩=some (.bool true):=q_ BK227 0 rfl;have hcz46_1:w45.cell? ⟨gb227,1,none⟩=some (.string a0_1):=q_ BK227 1 rfl;have hcz46_2:w45.cell? ⟨gb227,2,none⟩=some (.int .i64 a0_2):=q_ BK227 2 rfl;have hfz46_0:=blk_frozen BK227.out 0;have hfz46_1:=blk_frozen BK227.out 1;have hfz46_2:=blk_frozen BK227.out 2)|(go_at_call 45;(with_reducible refine (spec_IsHost.calls k a1 true _ A6.out).mono ?_);rintro e w47 ⟨rfl,hb⟩;have n0_:=bb_ BK227 hb;have n1_:=bs_ HB hb;clear BK227;clear HB;have BK227:=n0_;have HB:=n1_;clear n0_ n1_;(try clear hb);(try clear hb2);(try clear hk);(try clear hi))|(go_at_call 46;(with_reducible refine (spec_l9Labels.calls k a1 t230 _ A8.out).mono ?_);rintro e w48 ⟨v231,rfl,ho0,hb⟩;have n0_:=Am7_ (Kd.R_lower ho0 (below_size (xe_ HB)));have n1_:=bb_ BK227 hb;have n2_:=bs_ HB hb;clear BK227;clear HB;have HO232:=n0_;have BK227:=n1_;have HB:=n2_;clear n0_ n1_ n2_;(try clear hb);(try clear hb2);(try clear hk);(try clear hi);(try clear ho0);obtain ⟨Ao49,co49,eo49⟩:=Kd.R_slice HO232.out;subst eo49;have hcz50_0:w48.cell? ⟨gb227,0,none⟩=some (.bool true):=q_ BK227 0 rfl;have hcz50_1:w48.cell? ⟨gb227,1,none⟩=some (.string a0_1):=q_ BK227 1 rfl;have hcz50_2:w48.cell? ⟨gb227,2,none⟩=some (.int .i64 a0_2):=q_ BK227 2 rfl;have hfz50_0:=blk_frozen BK227.out 0;have hfz50_1:=blk_frozen BK227.out 1;have hfz50_2:=blk_frozen BK227.out 2))
          go_ret
          exact ⟨by first|rfl|(simp [errW_none,errW_some] <;> rfl)|(simp only [← hji27];first|rfl|(simp [errW_none,errW_some] <;> rfl))|(simp [*,errW_none,errW_some] <;> rfl),by repeat (first|(with_reducible first|exact HB.out|apply below_alloc|apply pw_below_drewN|apply below_drew1|refine below_set ?_ GE227.out)|exact HB.out)⟩
        ·rw [if_neg c29] at H
         exact absurd H (by simp)
       ·rw [if_neg c28] at H
        exact absurd H (by simp)
      ·rw [if_neg c26] at H
       have c26b0:decide (0 < (wrap64 ((a0_1.size:Int) - (a1.size:Int))))=false:=decide_eq_false c26;clear c26;obtain rfl:=Option.some.inj H
       go_enter Tryz.func19,Tryz.ntmps19
       go_wp2_with (first|((with_reducible refine gate_dst (N:=2) rfl ?_);(try (refine gate_guard (by rfl) ?_;dsimp only));refine box_event ?hg (N:=2) ?hd (cs:=#[.bool true,.string a0_1,.int .i64 a0_2]) (t:=28) ?hr ?_;(case hd => rfl);(case hg => rfl);(case hr => first|(go_simp;done)|(go_simp;rfl));intro gb227 hg w51 hbox hb;have n0_:=bs_ HB hb;have n1_:=Am7_ (hbox);have n2_:=gw_ hg HB;have n3_:=gw_ hg HB;clear HB;have HB:=n0_;have BK227:=n1_;have GW227:=n2_;have GE227:=n3_;clear n0_ n1_ n2_ n3_;clear hb hbox hg;have hcz52_0:w51.cell? ⟨gb227,0,none⟩=some (.bool true):=q_ BK227 0 rfl;have hcz52_1:w51.cell? ⟨gb227,1,none⟩=some (.string a0_1):=q_ BK227 1 rfl;have hcz52_2:w51.cell? ⟨gb227,2,none⟩=some (.int .i64 a0_2):=q_ BK227 2 rfl;have hfz52_0:=blk_frozen BK227.out 0;have hfz52_1:=blk_frozen BK227.out 1;have hfz52_2:=blk_frozen BK227.out 2)|((with_reducible refine gate_callee (f:=28) rfl ?_);refine goesL_ (some 7) rfl rfl Tryz.func28 (by kernel_rfl) rfl #[.agg #[.bool true,.string a0_1,.int .i64 a0_2]] rfl (by (try simp only [List.map_toArray,List.map_cons,List.map_nil]);first|done|rfl|(simp only [List.length_drop,List.length_take];rfl)) ?_;(with_reducible refine (spec_IsOrigin.calls k true a0_1 a0_2 true _ A3.out).mono ?_);rintro e w53 ⟨rfl,hb⟩;refine ⟨_,rfl,?_⟩;have n0_:=bb_ BK227 hb;have n1_:=bs_ HB hb;clear BK227;clear HB;have BK227:=n0_;have HB:=n1_;clear n0_ n1_;(try clear hb);(try clear hb2);(try clear hk);(try clear hi);have hcz54_0:w53.cell? ⟨gb227,0,none⟩=some (.bool true):=q_ BK227 0 rfl;have hcz54_1:w53.cell? ⟨gb227,1,none⟩=some (.string a0_1):=q_ BK227 1 rfl;have hcz54_2:w53.cell? ⟨gb227,2,none⟩=some (.int .i64 a0_2):=q_ BK227 2 rfl;have hfz54_0:=blk_frozen BK227.out 0;have hfz54_1:=blk_frozen BK227.out 1;have hfz54_2:=blk_frozen BK227.out 2)|(go_at_call 45;(with_reducible refine (spec_IsHost.calls k a1 true _ A6.out).mono ?_);rintro e w55 ⟨rfl,hb⟩;have n0_:=bb_ BK227 hb;have n1_:=bs_ HB hb;clear BK227;clear HB;have BK227:=n0_;have HB:=n1_;clear n0_ n1_;(try clear hb);(try clear hb2);(try clear hk);(try clear hi))|(go_at_call 46;(with_reducible refine (spec_l9Labels.calls k a1 t230 _ A8.out).mono ?_);rintro e w56 ⟨v231,rfl,ho0,hb⟩;have n0_:=Am7_ (Kd.R_lower ho0 (below_size (xe_ HB)));have n1_:=bb_ BK227 hb;have n2_:=bs_ HB hb;clear BK227;clear HB;have HO232:=n0_;have BK227:=n1_;have HB:=n2_;clear n0_ n1_ n2_;(try clear hb);(try clear hb2);(try clear hk);(try clear hi);(try clear ho0);obtain ⟨Ao57,co57,eo57⟩:=Kd.R_slice HO232.out;subst eo57;have hcz58_0:w56.cell? ⟨gb227,0,none⟩=some (.bool true):=q_ BK227 0 rfl;have hcz58_1:w56.cell? ⟨gb227,1,none⟩=some (.string a0_1):=q_ BK227 1 rfl;have hcz58_2:w56.cell? ⟨gb227,2,none⟩=some (.int .i64 a0_2):=q_ BK227 2 rfl;have hfz58_0:=blk_frozen BK227.out 0;have hfz58_1:=blk_frozen BK227.out 1;have hfz58_2:=blk_frozen BK227.out 2))
       go_ret
       exact ⟨by first|rfl|(simp [errW_none,errW_some] <;> rfl)|(simp [*,errW_none,errW_some] <;> rfl),by repeat (first|(with_reducible first|exact HB.out|apply below_alloc|apply pw_below_drewN|apply below_drew1|refine below_set ?_ GE227.out)|exact HB.out)⟩
   ·replace c7:=Bool.eq_false_iff.mpr c7;subst c7
    rw [if_neg (show ¬ (false=true) by decide)] at H
    obtain rfl:=Option.some.inj H
    go_enter Tryz.func19,Tryz.ntmps19
    go_wp2_with (first|((with_reducible refine gate_dst (N:=2) rfl ?_);(try (refine gate_guard (by rfl) ?_;dsimp only));refine box_event ?hg (N:=2) ?hd (cs:=#[.bool true,.string a0_1,.int .i64 a0_2]) (t:=28) ?hr ?_;(case hd => rfl);(case hg => rfl);(case hr => first|(go_simp;done)|(go_simp;rfl));intro gb227 hg w59 hbox hb;have n0_:=bs_ HB hb;have n1_:=Am7_ (hbox);have n2_:=gw_ hg HB;have n3_:=gw_ hg HB;clear HB;have HB:=n0_;have BK227:=n1_;have GW227:=n2_;have GE227:=n3_;clear n0_ n1_ n2_ n3_;clear hb hbox hg;have hcz60_0:w59.cell? ⟨gb227,0,none⟩=some (.bool true):=q_ BK227 0 rfl;have hcz60_1:w59.cell? ⟨gb227,1,none⟩=some (.string a0_1):=q_ BK227 1 rfl;have hcz60_2:w59.cell? ⟨gb227,2,none⟩=some (.int .i64 a0_2):=q_ BK227 2 rfl;have hfz60_0:=blk_frozen BK227.out 0;have hfz60_1:=blk_frozen BK227.out 1;have hfz60_2:=blk_frozen BK227.out 2)|((with_reducible refine gate_callee (f:=28) rfl ?_);refine goesL_ (some 7) rfl rfl Tryz.func28 (by kernel_rfl) rfl #[.agg #[.bool true,.string a0_1,.int .i64 a0_2]] rfl (by (try simp only [List.map_toArray,List.map_cons,List.map_nil]);first|done|rfl|(simp only [List.length_drop,List.length_take];rfl)) ?_;(with_reducible refine (spec_IsOrigin.calls k true a0_1 a0_2 true _ A3.out).mono ?_);rintro e w61 ⟨rfl,hb⟩;refine ⟨_,rfl,?_⟩;have n0_:=bb_ BK227 hb;have n1_:=bs_ HB hb;clear BK227;clear HB;have BK227:=n0_;have HB:=n1_;clear n0_ n1_;(try clear hb);(try clear hb2);(try clear hk);(try clear hi);have hcz62_0:w61.cell? ⟨gb227,0,none⟩=some (.bool true):=q_ BK227 0 rfl;have hcz62_1:w61.cell? ⟨gb227,1,none⟩=some (.string a0_1):=q_ BK227 1 rfl;have hcz62_2:w61.cell? ⟨gb227,2,none⟩=some (.int .i64 a0_2):=q_ BK227 2 rfl;have hfz62_0:=blk_frozen BK227.out 0;have hfz62_1:=blk_frozen BK227.out 1;have hfz62_2:=blk_frozen BK227.out 2)|(go_at_call 45;(with_reducible refine (spec_IsHost.calls k a1 false _ A6.out).mono ?_);rintro e w63 ⟨rfl,hb⟩;have n0_:=bb_ BK227 hb;have n1_:=bs_ HB hb;clear BK227;clear HB;have BK227:=n0_;have HB:=n1_;clear n0_ n1_;(try clear hb);(try clear hb2);(try clear hk);(try clear hi)))
    go_ret
    exact ⟨by first|rfl|(simp [errW_none,errW_some] <;> rfl)|(simp [*,errW_none,errW_some] <;> rfl),by repeat (first|(with_reducible first|exact HB.out|apply below_alloc|apply pw_below_drewN|apply below_drew1|refine below_set ?_ GE227.out)|exact HB.out)⟩
  ·replace c5:=Bool.eq_false_iff.mpr c5;subst c5
   rw [if_neg (show ¬ (false=true) by decide)] at H
   obtain rfl:=Option.some.inj H
   go_enter Tryz.func19,Tryz.ntmps19
   go_wp2_with (first|((with_reducible refine gate_dst (N:=2) rfl ?_);(try (refine gate_guard (by rfl) ?_;dsimp only));refine box_event ?hg (N:=2) ?hd (cs:=#[.bool false,.string a0_1,.int .i64 a0_2]) (t:=28) ?hr ?_;(case hd => rfl);(case hg => rfl);(case hr => first|(go_simp;done)|(go_simp;rfl));intro gb227 hg w64 hbox hb;have n0_:=bs_ HB hb;have n1_:=Am7_ (hbox);have n2_:=gw_ hg HB;have n3_:=gw_ hg HB;clear HB;have HB:=n0_;have BK227:=n1_;have GW227:=n2_;have GE227:=n3_;clear n0_ n1_ n2_ n3_;clear hb hbox hg;have hcz65_0:w64.cell? ⟨gb227,0,none⟩=some (.bool false):=q_ BK227 0 rfl;have hcz65_1:w64.cell? ⟨gb227,1,none⟩=some (.string a0_1):=q_ BK227 1 rfl;have hcz65_2:w64.cell? ⟨gb227,2,none⟩=some (.int .i64 a0_2):=q_ BK227 2 rfl;have hfz65_0:=blk_frozen BK227.out 0;have hfz65_1:=blk_frozen BK227.out 1;have hfz65_2:=blk_frozen BK227.out 2)|((with_reducible refine gate_callee (f:=28) rfl ?_);refine goesL_ (some 7) rfl rfl Tryz.func28 (by kernel_rfl) rfl #[.agg #[.bool false,.string a0_1,.int .i64 a0_2]] rfl (by (try simp only [List.map_toArray,List.map_cons,List.map_nil]);first|done|rfl|(simp only [List.length_drop,List.length_take];rfl)) ?_;(with_reducible refine (spec_IsOrigin.calls k false a0_1 a0_2 true _ A3.out).mono ?_);rintro e w66 ⟨rfl,hb⟩;refine ⟨_,rfl,?_⟩;have n0_:=bb_ BK227 hb;have n1_:=bs_ HB hb;clear BK227;clear HB;have BK227:=n0_;have HB:=n1_;clear n0_ n1_;(try clear hb);(try clear hb2);(try clear hk);(try clear hi);have hcz67_0:w66.cell? ⟨gb227,0,none⟩=some (.bool false):=q_ BK227 0 rfl;have hcz67_1:w66.cell? ⟨gb227,1,none⟩=some (.string a0_1):=q_ BK227 1 rfl;have hcz67_2:w66.cell? ⟨gb227,2,none⟩=some (.int .i64 a0_2):=q_ BK227 2 rfl;have hfz67_0:=blk_frozen BK227.out 0;have hfz67_1:=blk_frozen BK227.out 1;have hfz67_2:=blk_frozen BK227.out 2))
   go_ret
   exact ⟨by first|rfl|(simp [errW_none,errW_some] <;> rfl)|(simp [*,errW_none,errW_some] <;> rfl),by repeat (first|(with_reducible first|exact HB.out|apply below_alloc|apply pw_below_drewN|apply below_drew1|refine below_set ?_ GE227.out)|exact HB.out)⟩
 ·replace c4:=Bool.eq_false_iff.mpr c4;subst c4
  rw [if_neg (show ¬ (false=true) by decide)] at H
  obtain rfl:=Option.some.inj H
  go_enter Tryz.func19,Tryz.ntmps19
  go_wp2_with (first|((with_reducible refine gate_dst (N:=2) rfl ?_);(try (refine gate_guard (by rfl) ?_;dsimp only));refine box_event ?hg (N:=2) ?hd (cs:=#[.bool a0_0,.string a0_1,.int .i64 a0_2]) (t:=28) ?hr ?_;(case hd => rfl);(case hg => rfl);(case hr => first|(go_simp;done)|(go_simp;rfl));intro gb227 hg w68 hbox hb;have n0_:=bs_ HB hb;have n1_:=Am7_ (hbox);have n2_:=gw_ hg HB;have n3_:=gw_ hg HB;clear HB;have HB:=n0_;have BK227:=n1_;have GW227:=n2_;have GE227:=n3_;clear n0_ n1_ n2_ n3_;clear hb hbox hg;have hcz69_0:w68.cell? ⟨gb227,0,none⟩=some (.bool a0_0):=q_ BK227 0 rfl;have hcz69_1:w68.cell? ⟨gb227,1,none⟩=some (.string a0_1):=q_ BK227 1 rfl;have hcz69_2:w68.cell? ⟨gb227,2,none⟩=some (.int .i64 a0_2):=q_ BK227 2 rfl;have hfz69_0:=blk_frozen BK227.out 0;have hfz69_1:=blk_frozen BK227.out 1;have hfz69_2:=blk_frozen BK227.out 2)|((with_reducible refine gate_callee (f:=28) rfl ?_);refine goesL_ (some 7) rfl rfl Tryz.func28 (by kernel_rfl) rfl #[.agg #[.bool a0_0,.string a0_1,.int .i64 a0_2]] rfl (by (try simp only [List.map_toArray,List.map_cons,List.map_nil]);first|done|rfl|(simp only [List.length_drop,List.length_take];rfl)) ?_;(with_reducible refine (spec_IsOrigin.calls k a0_0 a0_1 a0_2 false _ A3.out).mono ?_);rintro e w70 ⟨rfl,hb⟩;refine ⟨_,rfl,?_⟩;have n0_:=bb_ BK227 hb;have n1_:=bs_ HB hb;clear BK227;clear HB;have BK227:=n0_;have HB:=n1_;clear n0_ n1_;(try clear hb);(try clear hb2);(try clear hk);(try clear hi)))
  go_ret
  exact ⟨by first|rfl|(simp [errW_none,errW_some] <;> rfl)|(simp [*,errW_none,errW_some] <;> rfl),by repeat (first|(with_reducible first|exact HB.out|apply below_alloc|apply pw_below_drewN|apply below_drew1|refine below_set ?_ GE227.out)|exact HB.out)⟩

/-! ### spec_Max: function 82 -/
def spec_Max.f (a0:Int) (a1:Int):Option (Int):=if a1 > a0 then (some a1) else (some a0)
set_option maxHeartbeats 8000000 in
set_option maxRecDepth 100000 in
theorem spec_Max.calls (a0:Int) (a1:Int) (r:Int) (w:World) (h:spec_Max.f a0 a1=some r) :
  Calls Tryz.prog 82 #[.int .i64 a0,.int .i64 a1] w fun e w' => e=.returned (.int .i64 r)∧Drawn0 w w':=by
 have H:(if a1 > a0 then (some a1) else (some a0))=some r:=h;clear h
 by_cases c3:a1 > a0
 ·rw [if_pos c3] at H
  have c3b0:decide (a0 < a1)=true:=decide_eq_true c3;clear c3;obtain rfl:=Option.some.inj H
  go_enter Tryz.func82,Tryz.ntmps82
  go_wp2
  go_ret
  exact ⟨by first|rfl|(simp;done)|(simp [*];done),by repeat (first|exact Drawn0.refl _|apply Drawn0.step)⟩
 ·rw [if_neg c3] at H
  have c3b0:decide (a0 < a1)=false:=decide_eq_false c3;clear c3;obtain rfl:=Option.some.inj H
  go_enter Tryz.func82,Tryz.ntmps82
  go_wp2
  go_ret
  exact ⟨by first|rfl|(simp;done)|(simp [*];done),by repeat (first|exact Drawn0.refl _|apply Drawn0.step)⟩

/-! ### spec_Mod: function 119 -/
def spec_Mod.f (a0:Int) (a1:Int):Option (Int):=(spec_l1In.f a1 1 1000000000000).bind fun t233 => (if t233=true then (if a1=0 then (none) else (some (Int.tmod (wrap64 ((Int.tmod a0 a1) + a1)) a1))) else (some 0))
set_option maxHeartbeats 8000000 in
set_option maxRecDepth 100000 in
theorem spec_Mod.calls (a0:Int) (a1:Int) (r:Int) (w:World) (h:spec_Mod.f a0 a1=some r) :
  Calls Tryz.prog 119 #[.int .i64 a0,.int .i64 a1] w fun e w' => e=.returned (.int .i64 r)∧Drawn0 w w':=by
 have H:=h;unfold spec_Mod.f at H;clear h;replace H:=Option.bind_eq_some_iff.mp H;obtain ⟨t233,A30,H⟩:=H
 try dsimp only at H
 have A3:=Am7_ A30;clear A30
 by_cases c4:t233=true
 ·subst c4
  rw [if_pos rfl] at H
  by_cases c5:a1=0
  ·rw [if_pos c5] at H
   exact absurd H (by simp)
  ·rw [if_neg c5] at H
   have c5b0:(a1 == 0)=false:=beq_eq_false_iff_ne.mpr c5;have c5b1:(a1 != 0)=true:=bne_iff_ne.mpr c5;obtain rfl:=Option.some.inj H
   go_enter Tryz.func119,Tryz.ntmps119
   go_wp2_with (first|((with_reducible refine gate_callee (f:=47) rfl ?_);refine goesL_ (some 6) rfl rfl Tryz.func47 (by kernel_rfl) rfl #[.int .i64 a1,.int .i64 1,.int .i64 1000000000000] rfl (by (try simp only [List.map_toArray,List.map_cons,List.map_nil]);first|done|rfl|(simp only [List.length_drop,List.length_take];rfl)) ?_;(with_reducible refine (spec_l1In.calls a1 1 1000000000000 true _ A3.out).mono ?_);rintro e w' ⟨rfl,⟨nd,rfl⟩⟩;refine ⟨_,rfl,?_⟩))
   go_ret
   exact ⟨by first|rfl|(simp;done)|(simp [*];done),by repeat (first|exact Drawn0.refl _|apply Drawn0.step)⟩
 ·replace c4:=Bool.eq_false_iff.mpr c4;subst c4
  rw [if_neg (show ¬ (false=true) by decide)] at H
  obtain rfl:=Option.some.inj H
  go_enter Tryz.func119,Tryz.ntmps119
  go_wp2_with (first|((with_reducible refine gate_callee (f:=47) rfl ?_);refine goesL_ (some 6) rfl rfl Tryz.func47 (by kernel_rfl) rfl #[.int .i64 a1,.int .i64 1,.int .i64 1000000000000] rfl (by (try simp only [List.map_toArray,List.map_cons,List.map_nil]);first|done|rfl|(simp only [List.length_drop,List.length_take];rfl)) ?_;(with_reducible refine (spec_l1In.calls a1 1 1000000000000 false _ A3.out).mono ?_);rintro e w' ⟨rfl,⟨nd,rfl⟩⟩;refine ⟨_,rfl,?_⟩))
  go_ret
  exact ⟨by first|rfl|(simp;done)|(simp [*];done),by repeat (first|exact Drawn0.refl _|apply Drawn0.step)⟩

/-! ### spec_Hash: function 108 -/
def spec_Hash.l0:Nat → List Int → Int → Int → Option (Int)
|0,_,_,_ => none
|k + 1,x0,x3,x4 => if x4 < (x0.length:Int) then (if 0 ≤ x4 then ((spec_Mod.f (rd x0 x4) 2147483647).bind fun t235 => (spec_Hash.l0 k x0 (Int.tmod (wrap64 ((wrap64 ((wrap64 (x3 * 1000003)) + t235)) + 13)) 2147483647) (wrap64 (x4 + 1)))) else (none)) else (some x3)
def spec_Hash.f (k:Nat) (l0:List Int):Option (Int):=spec_Hash.l0 k l0 11 0
theorem spec_Hash.mono_l:∀ k,(∀ y0 y1 y2,LeO (spec_Hash.l0 k y0 y1 y2) (spec_Hash.l0 (k + 1) y0 y1 y2))
|0 => fun _ _ _ r h => by simp [spec_Hash.l0] at h
|k + 1 => by
  have ih0:=spec_Hash.mono_l k
  ·intro y0 y1 y2
   unfold spec_Hash.l0
   repeat' first
  |(with_reducible exact ih0 _ _ _)
  |(with_reducible exact LeO.refl _)
  |(with_reducible exact LeO.none _)
  |(with_reducible refine LeO.ite ?_ ?_)
  |(with_reducible refine LeO.bind ?_ (fun _ => ?_))
  |exact ih0 _ _ _
  |exact LeO.none _
  |refine LeO.ite ?_ ?_
  |refine LeO.bind ?_ (fun _ => ?_)
theorem spec_Hash.mono:∀ a0 k,LeO (spec_Hash.f k a0) (spec_Hash.f (k + 1) a0):=by
 intro a0 k;have ih0:=spec_Hash.mono_l k
 unfold spec_Hash.f
 repeat' first
  |(with_reducible exact ih0 _ _ _)
  |(with_reducible exact LeO.refl _)
  |(with_reducible exact LeO.none _)
  |(with_reducible refine LeO.ite ?_ ?_)
  |(with_reducible refine LeO.bind ?_ (fun _ => ?_))
  |exact ih0 _ _ _
  |exact LeO.none _
  |refine LeO.ite ?_ ?_
  |refine LeO.bind ?_ (fun _ => ?_)
set_option maxHeartbeats 8000000 in
set_option maxRecDepth 100000 in
theorem spec_Hash.calls (k:Nat) (A0:Option Addr) (c0:Nat) (l0:List Int) (r:Int) (w:World) (hr0:Kd.C (Kd.int .i64) w A0 l0.length l0) (hc0:l0.length ≤ c0) (h:spec_Hash.f k l0=some r) :
  Calls Tryz.prog 108 #[.slice A0 l0.length c0] w fun e w' => e=.returned (.int .i64 r)∧Drawn0 w w':=by
 have HR0:=Am7_ hr0;have HC0:=Am7_ hc0;clear hr0 hc0;have H:(spec_Hash.l0 k l0 11 0)=some r:=h;clear h;have H':=Am7_ H;clear H
 go_enter Tryz.func108,Tryz.ntmps108
 go_wp2
 go_loopg [3,4] k (fun kq v3 v4 w' => ∃ (x3_1:Int) (x4_1:Int),v3=.int .i64 x3_1∧v4=.int .i64 x4_1∧Aside0 (spec_Hash.l0 kq l0 x3_1 x4_1=some r)∧Aside0 (kq ≤ k)∧Drawn0 w w')
 case atStart => exact ⟨(11),(0),(by first|rfl|(simp;done)|(simp [*];done)),(by first|rfl|(simp;done)|(simp [*];done)),H',⟨Nat.le_refl _⟩,by repeat (first|exact Drawn0.refl _|apply Drawn0.step)⟩
 case round =>
  clear H'
  try clear c1
  obtain ⟨x3_1,x4_1,rfl,rfl,HA,HK1,⟨m1,rfl⟩⟩:=hrel
  cases gk with
 |zero => exact absurd HA.out (by simp [spec_Hash.l0])
 |succ k1 =>
   have H:=HA.out;clear HA;simp only [spec_Hash.l0] at H
   by_cases c2:x4_1 < (l0.length:Int)
   ·rw [if_pos c2] at H
    have c2b0:decide (x4_1 < (l0.length:Int))=true:=decide_eq_true c2;clear c2
    by_cases c3:0 ≤ x4_1
    ·rw [if_pos c3] at H
     have c3b0:decide (0 ≤ x4_1)=true:=decide_eq_true c3;clear c3;replace H:=Option.bind_eq_some_iff.mp H;obtain ⟨t235,A40,H⟩:=H
     try dsimp only at H
     have A4:=Am7_ A40;clear A40;have H':=Am7_ H;clear H;have p234:0 ≤ (x4_1:Int):=of_decide_eq_true (by first|(with_reducible assumption)|assumption);have q234:x4_1 < (l0.length:Int):=of_decide_eq_true (by first|(with_reducible assumption)|assumption);obtain ⟨ad234,e234,hx234_0⟩:=Kd.at_int HR0.out x4_1 p234 q234
     cases e234
     replace p234:=eq_true p234;replace q234:=eq_true q234
     go_wp2_with (first|((with_reducible refine gate_callee (f:=119) rfl ?_);refine goesL_ (some 17) rfl rfl Tryz.func119 (by kernel_rfl) rfl #[.int .i64 (rd l0 x4_1),.int .i64 2147483647] rfl (by (try simp only [List.map_toArray,List.map_cons,List.map_nil]);first|done|rfl|(simp only [List.length_drop,List.length_take];rfl)) ?_;(with_reducible refine (spec_Mod.calls (rd l0 x4_1) 2147483647 t235 _ A4.out).mono ?_);rintro e w' ⟨rfl,⟨nd,rfl⟩⟩;refine ⟨_,rfl,?_⟩))
     go_roundg k1
     case measure => have:=HK1.out;omega
     case rel => exact ⟨(Int.tmod (wrap64 ((wrap64 ((wrap64 (x3_1 * 1000003)) + t235)) + 13)) 2147483647),(wrap64 (x4_1 + 1)),(by first|rfl|(simp;done)|(simp [*];done)),(by first|rfl|(simp;done)|(simp [*];done)),H',⟨by have:=HK1.out;omega⟩,by repeat (first|exact Drawn0.refl _|apply Drawn0.step)⟩
    ·rw [if_neg c3] at H
     exact absurd H (by simp)
   ·rw [if_neg c2] at H
    have c2b0:decide (x4_1 < (l0.length:Int))=false:=decide_eq_false c2;clear c2;obtain rfl:=Option.some.inj H
    go_wp2
    go_ret
    exact ⟨by first|rfl|(simp;done)|(simp [*];done),by repeat (first|exact Drawn0.refl _|apply Drawn0.step)⟩

/-! ### spec_KeyedHash: function 83 -/
def spec_KeyedHash.f (k:Nat) (a0:Int) (l1:List Int):Option (Int):=(some (([a0]:List Int):List Int)).bind fun y236 => (if y236.length + l1.length < 17592186044416 then ((some (y236 ++ l1:List Int)).bind fun y239 => (if y239.length < 17592186044416 then ((spec_Hash.f k (y239 ++ [a0])).bind fun t245 => (some t245)) else (none))) else (none))
theorem spec_KeyedHash.mono:∀ a0 a1 k,LeO (spec_KeyedHash.f k a0 a1) (spec_KeyedHash.f (k + 1) a0 a1):=by
 intro a0 a1 k
 unfold spec_KeyedHash.f
 repeat' first
  |(with_reducible exact spec_Hash.mono _ _)
  |(with_reducible exact LeO.refl _)
  |(with_reducible exact LeO.none _)
  |(with_reducible refine LeO.ite ?_ ?_)
  |(with_reducible refine LeO.bind ?_ (fun _ => ?_))
  |exact spec_Hash.mono _ _
  |exact LeO.none _
  |refine LeO.ite ?_ ?_
  |refine LeO.bind ?_ (fun _ => ?_)
set_option maxHeartbeats 8000000 in
set_option maxRecDepth 100000 in
theorem spec_KeyedHash.calls (k:Nat) (a0:Int) (A1:Option Addr) (c1:Nat) (l1:List Int) (r:Int) (w:World) (hr1:Kd.C (Kd.int .i64) w A1 l1.length l1) (hc1:l1.length ≤ c1) (h:spec_KeyedHash.f k a0 l1=some r) :
  Calls Tryz.prog 83 #[.int .i64 a0,.slice A1 l1.length c1] w fun e w' => e=.returned (.int .i64 r)∧Below w.heap.size w w':=by
 have HR1:=Am7_ hr1;have HC1:=Am7_ hc1;clear hr1 hc1;have HB:=Am7_ (Below.refl w.heap.size w);have H:=h;unfold spec_KeyedHash.f at H;clear h;obtain ⟨y236,hy236⟩:∃ y_:List Int,y_=(([a0]:List Int)):=⟨_,rfl⟩;replace H:(if y236.length + l1.length < 17592186044416 then ((some (y236 ++ l1:List Int)).bind fun y239 => (if y239.length < 17592186044416 then ((spec_Hash.f k (y239 ++ [a0])).bind fun t245 => (some t245)) else (none))) else (none))=some r:=by first|(rw [hy236];with_reducible exact H)|(have H2_:=(Option.bind_some _ _).symm.trans H;rw [hy236];with_reducible exact H2_)|(have H2_:=(Option.bind_some _ _).symm.trans H;with_reducible exact H2_)|with_reducible exact H|(rw [hy236];exact H)|exact H
 have Ny236:=Am7_ hy236;clear hy236
 by_cases c3:y236.length + l1.length < 17592186044416
 ·rw [if_pos c3] at H
  have LMc3:=Am7_ c3;clear c3;obtain ⟨y239,hy239⟩:∃ y_:List Int,y_=(y236 ++ l1):=⟨_,rfl⟩;replace H:(if y239.length < 17592186044416 then ((spec_Hash.f k (y239 ++ [a0])).bind fun t245 => (some t245)) else (none))=some r:=by first|(rw [hy239];with_reducible exact H)|(have H2_:=(Option.bind_some _ _).symm.trans H;rw [hy239];with_reducible exact H2_)|(have H2_:=(Option.bind_some _ _).symm.trans H;with_reducible exact H2_)|with_reducible exact H|(rw [hy239];exact H)|exact H
  have Ny239:=Am7_ hy239;clear hy239
  by_cases c4:y239.length < 17592186044416
  ·rw [if_pos c4] at H
   have LMc4:=Am7_ c4;clear c4;obtain ⟨y242,hy242⟩:∃ y_:List Int,y_=(y239 ++ [a0]):=⟨_,rfl⟩;replace H:((spec_Hash.f k y242).bind fun t245 => (some t245))=some r:=by first|(rw [hy242];with_reducible exact H)|(have H2_:=(Option.bind_some _ _).symm.trans H;rw [hy242];with_reducible exact H2_)|(have H2_:=(Option.bind_some _ _).symm.trans H;with_reducible exact H2_)|with_reducible exact H|(rw [hy242];exact H)|exact H
   have Ny242:=Am7_ hy242;clear hy242;replace H:=Option.bind_eq_some_iff.mp H;obtain ⟨t245,A50,H⟩:=H
   try dsimp only at H
   have A5:=Am7_ A50;clear A50;obtain rfl:=Option.some.inj H
   go_enter Tryz.func83,Tryz.ntmps83
   go_wp2_with (first|((with_reducible refine gate_dst (N:=6) rfl ?_);refine Kd.R_lit (Kd.int .i64) _ 3 ?hg (N:=6) ?hd (xs:=([a0]:List Int)) (inner:=[.int .i64 a0]) (ok:=fun _ => True) (okp:=fun _ => True) ?hr ?hp (fun _ hk => hk) trivial (Below.refl _ _) (Nat.le_refl _) (by simp) ?_;(case hd => rfl);(case hg => rfl);(case hr => first|(go_simp;done)|(go_simp;rfl));(case hp => exact (Reps.one (show Kd.M (Kd.int .i64) _ _ _ a0 [.int .i64 a0] from rfl) (Reps.none _ _)));intro v237 w6 ho7 hb hg_ hnew_;clear hg_ hnew_;(first|rw [← Ny236.out] at ho7|(simp only [Int.reduceToNat] at ho7;rw [← Ny236.out] at ho7));have n0_:=Am7_ (Kd.R_lower ho7 (below_size (xe_ HB)));have n1_:=bs_ HB hb;clear HB;have HO238:=n0_;have HB:=n1_;clear n0_ n1_;clear hb ho7)|((with_reducible refine gate_builtin (b:=.append) (xs:=#[.tmp 6,.tmp 7]) rfl ?_);at_builtin;refine Kd.R_append_rows (Kd.int .i64) (w0:=w) w.heap.size rfl (.tmp 6) (.tmp 7) 47 3 (.int .i64 0) 8 rfl Tryz.underlying47 info3 rfl (by decide) (by omega) v237 y236 l1 _ _ _ (fun _ => True) (fun _ => False) rfl rfl ?aO ?aR (fun _ _ h => h) (fun _ h => h.elim) ?aF ?aB ?aS ?aL ?_;(case aR => repeat (first|exact (Kd.C_below HR1.out HB.out)|(with_reducible refine Kd.C_alloc ?_ _)|(with_reducible refine Kd.C_drewN ?_ _)|(with_reducible refine Kd.C_drew ?_)));(case aB => exact (xe_ HB));(case aF => exact (fun _ _ => trivial));(case aO => exact (by (with_reducible repeat (first|apply Kd.R_alloc|apply Kd.R_drewN|apply Kd.R_drew));exact HO238.out));(case aS => exact (below_size (xe_ HB)));(case aL => have:=LMc3.out;omega);intro v240 w8 ho hb hg hat;rw [← Ny239.out] at ho;have n0_:=Am7_ (hb);have n1_:=Am7_ (ho);clear HB;clear HO238;have HB:=n0_;have HO241:=n1_;clear n0_ n1_;clear ho hb hg hat)|((with_reducible refine gate_builtin (b:=.append) (xs:=#[.tmp 8,.tmp 10]) rfl ?_);at_builtin;refine Kd.R_append (Kd.int .i64) (w0:=w) w.heap.size rfl (.tmp 8) (.tmp 10) 47 3 (.int .i64 0) 8 rfl Tryz.underlying47 info3 rfl (by decide) (by omega) v240 y239 a0 [.int .i64 a0] (fun _ => True) (fun _ => False) rfl rfl ?aP (fun _ hk => hk.elim) ?aF ?aO ?aB ?aS ?aL ?_;(case aP => exact rfl);(case aB => exact (xe_ HB));(case aF => exact (fun _ _ => trivial));(case aO => exact (by (with_reducible repeat (first|apply Kd.R_alloc|apply Kd.R_drewN|apply Kd.R_drew));exact HO241.out));(case aS => exact (below_size (xe_ HB)));(case aL => have:=LMc4.out;omega);intro v243 w9 ho hb hg hat;rw [← Ny242.out] at ho;have n0_:=Am7_ (hb);have n1_:=Am7_ (ho);clear HB;clear HO241;have HB:=n0_;have HO244:=n1_;clear n0_ n1_;clear ho hb hg hat;obtain ⟨Ao10,co10,eo10⟩:=Kd.R_slice HO244.out;subst eo10)|((with_reducible refine gate_callee (f:=108) rfl ?_);refine goesL_ (some 12) rfl rfl Tryz.func108 (by kernel_rfl) rfl #[.slice Ao10 y242.length co10] rfl (by (try simp only [List.map_toArray,List.map_cons,List.map_nil]);first|done|rfl|(simp only [List.length_drop,List.length_take];rfl)) ?_;(with_reducible refine (spec_Hash.calls k _ _ y242 t245 _ ?side1 ?side2 A5.out).mono ?_);(case side1 => repeat (first|exact (Kd.R_reads' HO244.out).2.2|(with_reducible refine Kd.C_alloc ?_ _)|(with_reducible refine Kd.C_drewN ?_ _)|(with_reducible refine Kd.C_drew ?_)));(case side2 => exact (Kd.R_reads' HO244.out).2.1);rintro e w' ⟨rfl,⟨nd,rfl⟩⟩;refine ⟨_,rfl,?_⟩))
   go_ret
   exact ⟨by first|rfl|(simp [errW_none,errW_some] <;> rfl)|(simp [*,errW_none,errW_some] <;> rfl),by repeat (first|(with_reducible first|exact HB.out|apply below_alloc|apply pw_below_drewN|apply below_drew1)|exact HB.out)⟩
  ·rw [if_neg c4] at H
   exact absurd H (by simp)
 ·rw [if_neg c3] at H
  exact absurd H (by simp)

/-! ### spec_BytesToInts: function 84 -/
def spec_BytesToInts.l0:Nat → List Int → List Int → Int → Option (List Int)
|0,_,_,_ => none
|k + 1,x0,x3,x4 => if x4 < (x0.length:Int) then (if 0 ≤ x4 then (if x3.length < 17592186044416 then (spec_BytesToInts.l0 k x0 (x3 ++ [wrap64 (rd x0 x4)]) (wrap64 (x4 + 1))) else (none)) else (none)) else (some x3)
def spec_BytesToInts.f (k:Nat) (l0:List Int):Option (List Int):=spec_BytesToInts.l0 k l0 (([(l0.length:Int)]:List Int)) 0
theorem spec_BytesToInts.mono_l:∀ k,(∀ y0 y1 y2,LeO (spec_BytesToInts.l0 k y0 y1 y2) (spec_BytesToInts.l0 (k + 1) y0 y1 y2))
|0 => fun _ _ _ r h => by simp [spec_BytesToInts.l0] at h
|k + 1 => by
  have ih0:=spec_BytesToInts.mono_l k
  ·intro y0 y1 y2
   unfold spec_BytesToInts.l0
   repeat' first
  |(with_reducible exact ih0 _ _ _)
  |(with_reducible exact LeO.refl _)
  |(with_reducible exact LeO.none _)
  |(with_reducible refine LeO.ite ?_ ?_)
  |(with_reducible refine LeO.bind ?_ (fun _ => ?_))
  |exact ih0 _ _ _
  |exact LeO.none _
  |refine LeO.ite ?_ ?_
  |refine LeO.bind ?_ (fun _ => ?_)
theorem spec_BytesToInts.mono:∀ a0 k,LeO (spec_BytesToInts.f k a0) (spec_BytesToInts.f (k + 1) a0):=by
 intro a0 k;have ih0:=spec_BytesToInts.mono_l k
 unfold spec_BytesToInts.f
 repeat' first
  |(with_reducible exact ih0 _ _ _)
  |(with_reducible exact LeO.refl _)
  |(with_reducible exact LeO.none _)
  |(with_reducible refine LeO.ite ?_ ?_)
  |(with_reducible refine LeO.bind ?_ (fun _ => ?_))
  |exact ih0 _ _ _
  |exact LeO.none _
  |refine LeO.ite ?_ ?_
  |refine LeO.bind ?_ (fun _ => ?_)
set_option maxHeartbeats 8000000 in
set_option maxRecDepth 100000 in
theorem spec_BytesToInts.calls (k:Nat) (A0:Option Addr) (c0:Nat) (l0:List Int) (r:List Int) (w:World) (hr0:Kd.C (Kd.int .u8) w A0 l0.length l0) (hc0:l0.length ≤ c0) (h:spec_BytesToInts.f k l0=some r) :
  Calls Tryz.prog 84 #[.slice A0 l0.length c0] w fun e w' => ∃ v0_:Value,e=.returned (v0_)∧Kd.R (Kd.int .i64) 3 w' w.heap.size (fun _ => True) v0_ r∧Below w.heap.size w w':=by
 have HR0:=Am7_ hr0;have HC0:=Am7_ hc0;clear hr0 hc0;have HB:=Am7_ (Below.refl w.heap.size w);have H:(spec_BytesToInts.l0 k l0 (([(l0.length:Int)]:List Int)) 0)=some r:=h;clear h;obtain ⟨y246,hy246⟩:∃ y_:List Int,y_=(([(l0.length:Int)]:List Int)):=⟨_,rfl⟩;replace H:(spec_BytesToInts.l0 k l0 y246 0)=some r:=by first|(rw [hy246];with_reducible exact H)|(have H2_:=(Option.bind_some _ _).symm.trans H;rw [hy246];with_reducible exact H2_)|(have H2_:=(Option.bind_some _ _).symm.trans H;with_reducible exact H2_)|with_reducible exact H|(rw [hy246];exact H)|exact H
 have Ny246:=Am7_ hy246;clear hy246;have H':=Am7_ H;clear H
 go_enter Tryz.func84,Tryz.ntmps84
 go_wp2_with (first|((with_reducible refine gate_dst (N:=7) rfl ?_);refine Kd.R_lit (Kd.int .i64) _ 3 ?hg (N:=7) ?hd (xs:=([(l0.length:Int)]:List Int)) (inner:=[.int .i64 (l0.length:Int)]) (ok:=fun _ => True) (okp:=fun _ => True) ?hr ?hp (fun _ hk => hk) trivial (Below.refl _ _) (Nat.le_refl _) (by simp) ?_;(case hd => rfl);(case hg => rfl);(case hr => first|(go_simp;done)|(go_simp;rfl));(case hp => exact (Reps.one (show Kd.M (Kd.int .i64) _ _ _ (l0.length:Int) [.int .i64 (l0.length:Int)] from rfl) (Reps.none _ _)));intro v247 w2 ho3 hb hg_ hnew_;clear hg_ hnew_;(first|rw [← Ny246.out] at ho3|(simp only [Int.reduceToNat] at ho3;rw [← Ny246.out] at ho3));have n0_:=Am7_ (Kd.R_lower ho3 (below_size (xe_ HB)));have n1_:=bs_ HB hb;clear HB;have HO248:=n0_;have HB:=n1_;clear n0_ n1_;clear hb ho3))
 go_loopg [3,4] k (fun kq v3 v4 w' => ∃ (x3_1:List Int) (x4_1:Int),v4=.int .i64 x4_1∧Aside0 (spec_BytesToInts.l0 kq l0 x3_1 x4_1=some r)∧Aside0 (kq ≤ k)∧Aside0 (Kd.R (Kd.int .i64) 3 w' w.heap.size (fun _ => True) v3 x3_1)∧Aside0 (Below w.heap.size w w'))
 case atStart => exact ⟨(y246),(0),(by first|rfl|(simp;done)|(simp [*];done)),H',⟨Nat.le_refl _⟩,⟨by (with_reducible repeat (first|apply Kd.R_alloc|apply Kd.R_drewN|apply Kd.R_drew));exact HO248.out⟩,⟨by repeat (first|(with_reducible first|exact HB.out|apply below_alloc|apply pw_below_drewN|apply below_drew1)|exact HB.out)⟩⟩
 case round =>
  clear H'
  try clear p2
  obtain ⟨x3_1,x4_1,rfl,HA,HK1,HO_3,HB⟩:=hrel
  cases gk with
 |zero => exact absurd HA.out (by simp [spec_BytesToInts.l0])
 |succ k1 =>
   have H:=HA.out;clear HA;simp only [spec_BytesToInts.l0] at H
   by_cases c4:x4_1 < (l0.length:Int)
   ·rw [if_pos c4] at H
    have c4b0:decide (x4_1 < (l0.length:Int))=true:=decide_eq_true c4;clear c4
    by_cases c5:0 ≤ x4_1
    ·rw [if_pos c5] at H
     have c5b0:decide (0 ≤ x4_1)=true:=decide_eq_true c5;clear c5
     by_cases c6:x3_1.length < 17592186044416
     ·rw [if_pos c6] at H
      have LMc6:=Am7_ c6;clear c6;obtain ⟨y250,hy250⟩:∃ y_:List Int,y_=(x3_1 ++ [wrap64 (rd l0 x4_1)]):=⟨_,rfl⟩;replace H:(spec_BytesToInts.l0 k1 l0 y250 (wrap64 (x4_1 + 1)))=some r:=by first|(rw [hy250];with_reducible exact H)|(have H2_:=(Option.bind_some _ _).symm.trans H;rw [hy250];with_reducible exact H2_)|(have H2_:=(Option.bind_some _ _).symm.trans H;with_reducible exact H2_)|with_reducible exact H|(rw [hy250];exact H)|exact H
      have Ny250:=Am7_ hy250;clear hy250;have H':=Am7_ H;clear H;have p249:0 ≤ (x4_1:Int):=of_decide_eq_true (by first|(with_reducible assumption)|assumption);have q249:x4_1 < (l0.length:Int):=of_decide_eq_true (by first|(with_reducible assumption)|assumption);obtain ⟨ad249,e249,hx249_0⟩:=Kd.at_int HR0.out x4_1 p249 q249
      cases e249
      replace hx249_0:=(HB.out.cell (World.block_lt_of_cell? w _ hx249_0)).trans hx249_0;replace p249:=eq_true p249;replace q249:=eq_true q249
      go_wp2_with (first|((with_reducible refine gate_builtin (b:=.append) (xs:=#[.tmp 14,.tmp 20]) rfl ?_);at_builtin;refine Kd.R_append (Kd.int .i64) (w0:=w) w.heap.size rfl (.tmp 14) (.tmp 20) 47 3 (.int .i64 0) 8 rfl Tryz.underlying47 info3 rfl (by decide) (by omega) u3 x3_1 (wrap64 (rd l0 x4_1)) [.int .i64 (wrap64 (rd l0 x4_1))] (fun _ => True) (fun _ => False) rfl rfl ?aP (fun _ hk => hk.elim) ?aF ?aO ?aB ?aS ?aL ?_;(case aP => exact rfl);(case aB => exact (xe_ HB));(case aF => exact (fun _ _ => trivial));(case aO => exact (by (with_reducible repeat (first|apply Kd.R_alloc|apply Kd.R_drewN|apply Kd.R_drew));exact HO_3.out));(case aS => exact (below_size (xe_ HB)));(case aL => have:=LMc6.out;omega);intro v251 w7 ho hb hg hat;rw [← Ny250.out] at ho;have n0_:=Am7_ (hb);have n1_:=Am7_ (ho);clear HB;clear HO_3;have HB:=n0_;have HO252:=n1_;clear n0_ n1_;clear ho hb hg hat))
      go_roundg k1
      case measure => have:=HK1.out;omega
      case rel => exact ⟨(y250),(wrap64 (x4_1 + 1)),(by first|rfl|(simp;done)|(simp [*];done)),H',⟨by have:=HK1.out;omega⟩,⟨by (with_reducible repeat (first|apply Kd.R_alloc|apply Kd.R_drewN|apply Kd.R_drew));exact HO252.out⟩,⟨by repeat (first|(with_reducible first|exact HB.out|apply below_alloc|apply pw_below_drewN|apply below_drew1)|exact HB.out)⟩⟩
     ·rw [if_neg c6] at H
      exact absurd H (by simp)
    ·rw [if_neg c5] at H
     exact absurd H (by simp)
   ·rw [if_neg c4] at H
    have c4b0:decide (x4_1 < (l0.length:Int))=false:=decide_eq_false c4;clear c4;obtain rfl:=Option.some.inj H
    go_wp2
    go_ret
    exact ⟨_,by first|rfl|(simp [errW_none,errW_some] <;> rfl)|(simp [*,errW_none,errW_some] <;> rfl),by (with_reducible repeat (first|apply Kd.R_alloc|apply Kd.R_drewN|apply Kd.R_drew));exact HO_3.out,by repeat (first|(with_reducible first|exact HB.out|apply below_alloc|apply pw_below_drewN|apply below_drew1)|exact HB.out)⟩


/-! ### spec_DeriveFromString: function 51 -/
def spec_DeriveFromString.f (k:Nat) (a0:Int) (a1:ByteArray):Option (Int):=if a1.size < 17592186044416 then ((spec_BytesToInts.f k (bytesOf a1)).bind fun t => ((spec_KeyedHash.f k a0 t).bind fun u => ((spec_Max.f 1 u).bind fun v => (some v)))) else none
theorem spec_DeriveFromString.mono:∀ a0 a1 k,LeO (spec_DeriveFromString.f k a0 a1) (spec_DeriveFromString.f (k + 1) a0 a1):=by
 intro a0 a1 k
 unfold spec_DeriveFromString.f;exact LeO.ite (LeO.bind (spec_BytesToInts.mono _ _) (fun _ => LeO.bind (spec_KeyedHash.mono _ _ _) (fun _ => LeO.refl _))) (LeO.refl _)
set_option maxHeartbeats 800000 in
theorem spec_DeriveFromString.calls (k:Nat) (a0:Int) (a1:ByteArray) (r:Int) (w:World) (h:spec_DeriveFromString.f k a0 a1=some r) :
  Calls Tryz.prog 51 #[.int .i64 a0,.string a1] w fun e w' => e=.returned (.int .i64 r)∧Below w.heap.size w w':=by
 unfold spec_DeriveFromString.f at h
 by_cases hs:a1.size < 17592186044416
 case neg => rw [if_neg hs] at h;cases h
 rw [if_pos hs] at h
 obtain ⟨t,ht,h⟩:=Option.bind_eq_some_iff.1 h;obtain ⟨u,hu,h⟩:=Option.bind_eq_some_iff.1 h;obtain ⟨v,hv,h⟩:=Option.bind_eq_some_iff.1 h;obtain rfl:v=r:=by simpa using h
 clear h;have HU:=Am7_ hu;have HV:=Am7_ hv;have hcap:(bytesOf a1).length ≤ grownCap w a1.size 0 5:=by rw [bytesOf_length];exact grownCap_ge _ _ _ _
 have C1:=spec_BytesToInts.calls k _ _ (bytesOf a1) t _ (Man.bytes_C w 5 a1 hs) hcap ht;rw [bytesOf_length] at C1;have HC:=Am7_ C1;have HB0:=Am7_ (Man.bytes_below w 5 a1);clear hu hv ht C1 hcap hs;have hcv:=fun W:World => Lib.run_convert_string_bytes (P:=Tryz.prog) W 9 22 5 a1 Tryz.underlying9 Tryz.underlying22 Tryz.underlying5
 go_enter Tryz.func51,Tryz.ntmps51
 go_wp2_with fail
 refine HC.out.mono ?_;rintro e w1 ⟨v0,rfl,hR,hb⟩;obtain ⟨A,c,rfl⟩:=Kd.R_slice hR;have HR:=Am7_ hR;have HB1:=Am7_ (below_step HB0.out hb);clear hR hb
 go_wp2_with fail
 refine (spec_KeyedHash.calls k a0 A c t u w1 (Kd.R_reads' HR.out).2.2 (Kd.R_reads' HR.out).2.1 HU.out).mono ?_;rintro e w2 ⟨rfl,hb⟩;have HB2:=Am7_ (below_step HB1.out hb);clear hb
 go_wp2_with fail
 refine (spec_Max.calls 1 u v w2 HV.out).mono ?_;rintro e w3 ⟨rfl,hb⟩;have HB3:=Am7_ (below_step HB2.out hb.below);clear hb
 go_wp2_with fail
 go_ret
 exact ⟨rfl,HB3.out⟩

/-! ### spec_SiteHash: function 37 -/
def spec_SiteHash.f (k:Nat) (a0:ByteArray):Option (Int):=(spec_DeriveFromString.f k 173 a0).bind fun t253 => (some t253)
theorem spec_SiteHash.mono:∀ a0 k,LeO (spec_SiteHash.f k a0) (spec_SiteHash.f (k + 1) a0):=by
 intro a0 k
 unfold spec_SiteHash.f
 repeat' first
  |(with_reducible exact spec_DeriveFromString.mono _ _ _)
  |(with_reducible exact LeO.refl _)
  |(with_reducible exact LeO.none _)
  |(with_reducible refine LeO.ite ?_ ?_)
  |(with_reducible refine LeO.bind ?_ (fun _ => ?_))
  |exact spec_DeriveFromString.mono _ _ _
  |exact LeO.none _
  |refine LeO.ite ?_ ?_
  |refine LeO.bind ?_ (fun _ => ?_)
set_option maxHeartbeats 8000000 in
set_option maxRecDepth 100000 in
theorem spec_SiteHash.calls (k:Nat) (a0:ByteArray) (r:Int) (w:World) (h:spec_SiteHash.f k a0=some r) :
  Calls Tryz.prog 37 #[.string a0] w fun e w' => e=.returned (.int .i64 r)∧Below w.heap.size w w':=by
 have HB:=Am7_ (Below.refl w.heap.size w);have H:((spec_DeriveFromString.f k 173 a0).bind fun t253 => (some t253))=some r:=h;clear h;replace H:=Option.bind_eq_some_iff.mp H;obtain ⟨t253,A20,H⟩:=H
 try dsimp only at H
 have A2:=Am7_ A20;clear A20;obtain rfl:=Option.some.inj H
 go_enter Tryz.func37,Tryz.ntmps37
 go_wp2_with (first|((with_reducible refine gate_callee (f:=51) rfl ?_);refine goesL_ (some 4) rfl rfl Tryz.func51 (by kernel_rfl) rfl #[.int .i64 173,.string a0] rfl (by (try simp only [List.map_toArray,List.map_cons,List.map_nil]);first|done|rfl|(simp only [List.length_drop,List.length_take];rfl)) ?_;(with_reducible refine (spec_DeriveFromString.calls k 173 a0 t253 _ A2.out).mono ?_);rintro e w3 ⟨rfl,hb⟩;refine ⟨_,rfl,?_⟩;have n0_:=bs_ HB hb;clear HB;have HB:=n0_;clear n0_;(try clear hb);(try clear hb2);(try clear hk);(try clear hi)))
 go_ret
 exact ⟨by first|rfl|(simp [errW_none,errW_some] <;> rfl)|(simp [*,errW_none,errW_some] <;> rfl),by repeat (first|(with_reducible first|exact HB.out|apply below_alloc|apply pw_below_drewN|apply below_drew1)|exact HB.out)⟩

end Go.Proofs.YtogcoedmagoogaaGreatDoor.PFnExactCheckAssertion
