/- Functions and contracts of a law's callees, written by a program of this session (a changed print): each contract says that the machine's call answers what the plain function says. Conditions: the plain function's own answer. -/
import Derived.Test.YtogcoedmagoogaaDoorZPFnExactRelayAssertionx0
import Derived.Test.YtogcoedmagoogaaDoorZPFnExactRelayAssertionx8
namespace Go.Proofs.YtogcoedmagoogaaDoor.PFnExactRelayAssertion
open Go.RowKit Go.Proofs.YtogcoedmagoogaaDoorW.PrintWords Go.Proofs.YtogcoedmagoogaaDoorW.PrintLast Go.Proofs.YtogcoedmagoogaaDoorW.PrintMore
attribute [local go_sem] max2_int min2_int max_two min_two max_three min_three max_four min_four   -- for this text's walks alone
set_option linter.unusedVariables false
set_option linter.unusedSimpArgs false
abbrev Am9_ {p : Prop} (h : p) : Aside0 p := Aside0.mk h

namespace Y9
class Ex_ (w W:World):Prop where
 k:∀ {g:Nat} {o:Obj},w.heap[g]?=some o → W.heap[g]?=some o
 e:∀ {v:World},Below v.heap.size v w → Below v.heap.size v W
instance (priority:=low) Ex_.rf (w:World):Ex_ w w:=⟨fun h => h,fun h => h⟩
instance Ex_.dn {w W:World} [x:Ex_ w W] (n:Nat):Ex_ w (W.drewN n):=⟨fun h => blk_drewN (x.k h) n,fun h => pw_below_drewN (x.e h) n⟩
instance Ex_.dr {w W:World} [x:Ex_ w W]:Ex_ w W.drew:=⟨fun h => blk_drew (x.k h),fun h => below_drew1 (x.e h)⟩
instance Ex_.al {w W:World} [x:Ex_ w W] (o:Obj):Ex_ w (W.alloc o):=⟨fun h => blk_alloc (x.k h) o,fun h => below_alloc (x.e h) o⟩
theorem xk_ {w W:World} {g:Nat} {o:Obj} (h:Aside0 (w.heap[g]?=some o)) [x:Ex_ w W]:W.heap[g]?=some o:=x.k h.out
theorem ne1_ {w W:World} {g g':Nat} {o:Obj} (hg:g'=W.heap.size) (h:Aside0 (w.heap[g]?=some o)) [x:Ex_ w W]:Aside0 (g ≠ g'):=Am9_ (by rw [hg];exact Nat.ne_of_lt (blk_lt (x.k h.out)))
theorem ne2_ {w W:World} {g g':Nat} {o:Obj} (hg:g'=W.heap.size) (h:Aside0 (w.heap[g]?=some o)) [x:Ex_ w W]:Aside0 (g' ≠ g):=Am9_ (by rw [hg];exact Nat.ne_of_gt (blk_lt (x.k h.out)))
theorem gw_ {v w W:World} {g':Nat} (hg:g'=W.heap.size) (h:Aside0 (Below v.heap.size v w)) [x:Ex_ w W]:Aside0 (v.heap.size ≤ g'):=Am9_ (by rw [hg];exact below_size (x.e h.out))
theorem bb_ {w W W':World} {g:Nat} {o:Obj} (h:Aside0 (w.heap[g]?=some o)) (hb:Below W.heap.size W W') [x:Ex_ w W]:Aside0 (W'.heap[g]?=some o):=Am9_ (blk_below (x.k h.out) hb)
theorem bs_ {v w W W':World} (h:Aside0 (Below v.heap.size v w)) (hb:Below W.heap.size W W') [x:Ex_ w W]:Aside0 (Below v.heap.size v W'):=Am9_ (below_step (x.e h.out) hb)
theorem xe_ {v w W:World} (h:Aside0 (Below v.heap.size v w)) [x:Ex_ w W]:Below v.heap.size v W:=x.e h.out
end Y9
open Y9

namespace Y9
abbrev Sa_ := @List.setIfInBounds_toArray
abbrev Sb_ := @List.set_cons_zero
abbrev Sc_ := @List.set_cons_succ
theorem q_ {w W : World} {g : Nat} {t : TypeId} {cs : Array Value} (h : Aside0 (w.heap[g]? = some (.cells cs t (0, 0)))) (i : Nat) {v : Option Value} (e : cs[i]? = v) [x : Ex_ w W] : W.cell? ⟨g, i, none⟩ = v := (blk_cell (x.k h.out) i).trans e
end Y9
open Y9
/-! ### impl_FormatOrigin: function 10 -/
def impl_FormatOrigin.f (k:Nat) (a0_0:Bool) (a0_1:ByteArray) (a0_2:Int):Option (ByteArray):=(impl_IsOrigin.f k a0_0 a0_1 a0_2).bind fun t266 => (if t266=true then (if a0_0=true then (if a0_2=443 then (if 8 + a0_1.size ≤ 9223372036854775807 then (some ((⟨#[104,116,116,112,115,58,47,47]⟩:ByteArray) ++ a0_1)) else (none)) else (if 8 + a0_1.size ≤ 9223372036854775807 then (if ((⟨#[104,116,116,112,115,58,47,47]⟩:ByteArray) ++ a0_1).size + 1 ≤ 9223372036854775807 then ((impl_FormatInt.f a0_2).bind fun t267 => (if (((⟨#[104,116,116,112,115,58,47,47]⟩:ByteArray) ++ a0_1) ++ (⟨#[58]⟩:ByteArray)).size + t267.size ≤ 9223372036854775807 then (some ((((⟨#[104,116,116,112,115,58,47,47]⟩:ByteArray) ++ a0_1) ++ (⟨#[58]⟩:ByteArray)) ++ t267)) else (none))) else (none)) else (none))) else (if a0_2=80 then (if 7 + a0_1.size ≤ 9223372036854775807 then (some ((⟨#[104,116,116,112,58,47,47]⟩:ByteArray) ++ a0_1)) else (none)) else (if 7 + a0_1.size ≤ 9223372036854775807 then (if ((⟨#[104,116,116,112,58,47,47]⟩:ByteArray) ++ a0_1).size + 1 ≤ 9223372036854775807 then ((impl_FormatInt.f a0_2).bind fun t268 => (if (((⟨#[104,116,116,112,58,47,47]⟩:ByteArray) ++ a0_1) ++ (⟨#[58]⟩:ByteArray)).size + t268.size ≤ 9223372036854775807 then (some ((((⟨#[104,116,116,112,58,47,47]⟩:ByteArray) ++ a0_1) ++ (⟨#[58]⟩:ByteArray)) ++ t268)) else (none))) else (none)) else (none)))) else (some (⟨#[]⟩:ByteArray)))
theorem impl_FormatOrigin.mono:∀ a0 a1 a2 k,LeO (impl_FormatOrigin.f k a0 a1 a2) (impl_FormatOrigin.f (k + 1) a0 a1 a2):=by
 intro a0 a1 a2 k
 unfold impl_FormatOrigin.f
 repeat' first
  |(with_reducible exact impl_IsOrigin.mono _ _ _ _)
  |(with_reducible exact LeO.refl _)
  |(with_reducible exact LeO.none _)
  |(with_reducible refine LeO.ite ?_ ?_)
  |(with_reducible refine LeO.bind ?_ (fun _ => ?_))
  |exact impl_IsOrigin.mono _ _ _ _
  |exact LeO.none _
  |refine LeO.ite ?_ ?_
  |refine LeO.bind ?_ (fun _ => ?_)
def impl_FormatOrigin.T10:Bool × List (List Nat × List Nat):=(true,[([],[]),([],[]),([1],[1]),([0,2],[0,2]),([3],[3]),([],[]),([5],[5]),([6],[6]),([4,7],[4,7]),([8,7,0,1,2,3,4,5,6,7,8],[8])])
def impl_FormatOrigin.B10:List Nat:=[0,0,2,7,15,0,32,96,255,511]
theorem impl_FormatOrigin.tab10:rtab .any (opsOf Tryd.f10 10)=impl_FormatOrigin.T10:=by kernel_rfl
theorem impl_FormatOrigin.bits10:waitsOk impl_FormatOrigin.T10.2 impl_FormatOrigin.B10=true:=by kernel_rfl
set_option maxHeartbeats 8000000 in
set_option maxRecDepth 100000 in
theorem impl_FormatOrigin.calls (k:Nat) (a0_0:Bool) (a0_1:ByteArray) (a0_2:Int) (r:ByteArray) (w:World) (ht_:Man.Tab w) (h:impl_FormatOrigin.f k a0_0 a0_1 a0_2=some r) :
  Calls Tryd.prog 10 #[.agg #[.bool a0_0,.string a0_1,.int .i64 a0_2]] w fun e w' => e=.returned (.string r)∧Below w.heap.size w w':=by
 have HT:=Am9_ ht_;clear ht_;have hu26:=Tryd.underlying26;have HB:=Am9_ (Below.refl w.heap.size w);have H:=h;unfold impl_FormatOrigin.f at H;clear h;replace H:=Option.bind_eq_some_iff.mp H;obtain ⟨t266,A20,H⟩:=H
 try dsimp only at H
 have A2:=Am9_ A20;clear A20
 by_cases c3:t266=true
 ·subst c3
  rw [if_pos rfl] at H
  by_cases c4:a0_0=true
  ·subst c4
   rw [if_pos rfl] at H
   by_cases c5:a0_2=443
   ·rw [if_pos c5] at H
    have c5b0:(a0_2 == 443)=true:=beq_iff_eq.mpr c5;have c5b1:(a0_2 != 443)=false:=bne_eq_false_iff_eq.mpr c5;clear c5
    by_cases c6:8 + a0_1.size ≤ 9223372036854775807
    ·rw [if_pos c6] at H
     have c6b0:=eq_true c6;have c6b1:decide (8 + a0_1.size ≤ 9223372036854775807)=true:=decide_eq_true c6
     try have c6b2:(9223372036854775807 < 8 + a0_1.size)=False:=eq_false (Nat.not_lt.2 c6)
     obtain rfl:=Option.some.inj H
     go_enter Tryd.func10,Tryd.ntmps10
     go_wp2_with (first|((with_reducible refine gate_dst (N:=1) rfl ?_);refine box_event ?hg (N:=1) ?hd (cs:=#[.bool true,.string a0_1,.int .i64 a0_2]) (t:=26) ?hr ?_;(case hd => rfl);(case hg => rfl);(case hr => first|(go_simp;done)|(go_simp;rfl));intro gb265 hg w7 hbox hb;have n0_:=bs_ HB hb;have n1_:=Am9_ (hbox);have n2_:=gw_ hg HB;have n3_:=gw_ hg HB;clear HB;have HB:=n0_;have BK265:=n1_;have GW265:=n2_;have GE265:=n3_;clear n0_ n1_ n2_ n3_;clear hb hbox hg;have hcz8_0:w7.cell? ⟨gb265,0,none⟩=some (.bool true):=q_ BK265 0 rfl;have hcz8_1:w7.cell? ⟨gb265,1,none⟩=some (.string a0_1):=q_ BK265 1 rfl;have hcz8_2:w7.cell? ⟨gb265,2,none⟩=some (.int .i64 a0_2):=q_ BK265 2 rfl;have hfz8_0:=blk_frozen BK265.out 0;have hfz8_1:=blk_frozen BK265.out 1;have hfz8_2:=blk_frozen BK265.out 2)|((with_reducible refine gate_callee (f:=23) rfl ?_);refine goesL_ (some 6) rfl rfl Tryd.func23 (by kernel_rfl) rfl #[.agg #[.bool true,.string a0_1,.int .i64 a0_2]] rfl (by (try simp only [List.map_toArray,List.map_cons,List.map_nil]);first|done|rfl|(simp only [List.length_drop,List.length_take];rfl)) ?_;(with_reducible refine (impl_IsOrigin.calls k true a0_1 a0_2 true _ A2.out).mono ?_);rintro e w9 ⟨rfl,hb⟩;refine ⟨_,rfl,?_⟩;have n0_:=bb_ BK265 hb;have n1_:=bs_ HB hb;clear BK265;clear HB;have BK265:=n0_;have HB:=n1_;clear n0_ n1_;(try clear hb);(try clear hb2);(try clear hk);(try clear hi);have hcz10_0:w9.cell? ⟨gb265,0,none⟩=some (.bool true):=q_ BK265 0 rfl;have hcz10_1:w9.cell? ⟨gb265,1,none⟩=some (.string a0_1):=q_ BK265 1 rfl;have hcz10_2:w9.cell? ⟨gb265,2,none⟩=some (.int .i64 a0_2):=q_ BK265 2 rfl;have hfz10_0:=blk_frozen BK265.out 0;have hfz10_1:=blk_frozen BK265.out 1;have hfz10_2:=blk_frozen BK265.out 2))
     go_ret
     exact ⟨by first|rfl|(simp [errW_none,errW_some] <;> rfl)|(simp [*,errW_none,errW_some] <;> rfl),by repeat (first|(with_reducible first|exact HB.out|apply below_alloc|apply pw_below_drewN|apply below_drew1|refine below_set ?_ GE265.out)|exact HB.out)⟩
    ·rw [if_neg c6] at H
     exact absurd H (by simp)
   ·rw [if_neg c5] at H
    have c5b0:(a0_2 == 443)=false:=beq_eq_false_iff_ne.mpr c5;have c5b1:(a0_2 != 443)=true:=bne_iff_ne.mpr c5
    by_cases c11:8 + a0_1.size ≤ 9223372036854775807
    ·rw [if_pos c11] at H
     have c11b0:=eq_true c11;have c11b1:decide (8 + a0_1.size ≤ 9223372036854775807)=true:=decide_eq_true c11
     try have c11b2:(9223372036854775807 < 8 + a0_1.size)=False:=eq_false (Nat.not_lt.2 c11)
     by_cases c12:((⟨#[104,116,116,112,115,58,47,47]⟩:ByteArray) ++ a0_1).size + 1 ≤ 9223372036854775807
     ·rw [if_pos c12] at H
      have c12b0:=eq_true c12;have c12b1:decide (((⟨#[104,116,116,112,115,58,47,47]⟩:ByteArray) ++ a0_1).size + 1 ≤ 9223372036854775807)=true:=decide_eq_true c12
      try have c12b2:(9223372036854775807 < ((⟨#[104,116,116,112,115,58,47,47]⟩:ByteArray) ++ a0_1).size + 1)=False:=eq_false (Nat.not_lt.2 c12)
      have c12b3:(9223372036854775807 < 8 + a0_1.size + 1)=False:=by
       have e:=c12b2;simp only [ByteArray.size_append] at e;exact e
      replace H:=Option.bind_eq_some_iff.mp H;obtain ⟨t267,A130,H⟩:=H
      try dsimp only at H
      have A13:=Am9_ A130;clear A130
      by_cases c14:(((⟨#[104,116,116,112,115,58,47,47]⟩:ByteArray) ++ a0_1) ++ (⟨#[58]⟩:ByteArray)).size + t267.size ≤ 9223372036854775807
      ·rw [if_pos c14] at H
       have c14b0:=eq_true c14;have c14b1:decide ((((⟨#[104,116,116,112,115,58,47,47]⟩:ByteArray) ++ a0_1) ++ (⟨#[58]⟩:ByteArray)).size + t267.size ≤ 9223372036854775807)=true:=decide_eq_true c14
       try have c14b2:(9223372036854775807 < (((⟨#[104,116,116,112,115,58,47,47]⟩:ByteArray) ++ a0_1) ++ (⟨#[58]⟩:ByteArray)).size + t267.size)=False:=eq_false (Nat.not_lt.2 c14)
       have c14b3:(9223372036854775807 < 8 + a0_1.size + 1 + t267.size)=False:=by
        have e:=c14b2;simp only [ByteArray.size_append] at e;exact e
       obtain rfl:=Option.some.inj H
       go_enter Tryd.func10,Tryd.ntmps10
       try go_wp2_with (first|((with_reducible refine gate_dst (N:=1) rfl ?_);refine box_event ?hg (N:=1) ?hd (cs:=#[.bool true,.string a0_1,.int .i64 a0_2]) (t:=26) ?hr ?_;(case hd => rfl);(case hg => rfl);(case hr => first|(go_simp;done)|(go_simp;rfl));intro gb265 hg w15 hbox hb;have n0_:=bs_ HB hb;have n1_:=Am9_ (hbox);have n2_:=gw_ hg HB;have n3_:=gw_ hg HB;clear HB;have HB:=n0_;have BK265:=n1_;have GW265:=n2_;have GE265:=n3_;clear n0_ n1_ n2_ n3_;clear hb hbox hg;have hcz16_0:w15.cell? ⟨gb265,0,none⟩=some (.bool true):=q_ BK265 0 rfl;have hcz16_1:w15.cell? ⟨gb265,1,none⟩=some (.string a0_1):=q_ BK265 1 rfl;have hcz16_2:w15.cell? ⟨gb265,2,none⟩=some (.int .i64 a0_2):=q_ BK265 2 rfl;have hfz16_0:=blk_frozen BK265.out 0;have hfz16_1:=blk_frozen BK265.out 1;have hfz16_2:=blk_frozen BK265.out 2)|((with_reducible refine gate_callee (f:=23) rfl ?_);refine goesL_ (some 6) rfl rfl Tryd.func23 (by kernel_rfl) rfl #[.agg #[.bool true,.string a0_1,.int .i64 a0_2]] rfl (by (try simp only [List.map_toArray,List.map_cons,List.map_nil]);first|done|rfl|(simp only [List.length_drop,List.length_take];rfl)) ?_;(with_reducible refine (impl_IsOrigin.calls k true a0_1 a0_2 true _ A2.out).mono ?_);rintro e w17 ⟨rfl,hb⟩;refine ⟨_,rfl,?_⟩;have n0_:=bb_ BK265 hb;have n1_:=bs_ HB hb;clear BK265;clear HB;have BK265:=n0_;have HB:=n1_;clear n0_ n1_;(try clear hb);(try clear hb2);(try clear hk);(try clear hi);have hcz18_0:w17.cell? ⟨gb265,0,none⟩=some (.bool true):=q_ BK265 0 rfl;have hcz18_1:w17.cell? ⟨gb265,1,none⟩=some (.string a0_1):=q_ BK265 1 rfl;have hcz18_2:w17.cell? ⟨gb265,2,none⟩=some (.int .i64 a0_2):=q_ BK265 2 rfl;have hfz18_0:=blk_frozen BK265.out 0;have hfz18_1:=blk_frozen BK265.out 1;have hfz18_2:=blk_frozen BK265.out 2))
       replace BK265:=Am9_ (blk_drew BK265.out);replace HB:=Am9_ (below_drew1 HB.out);refine start_ (n:=10) (S:=fun w' => w'.cell? ⟨gb265,0,none⟩=some (.bool true)∧w'.cell? ⟨gb265,1,none⟩=some (.string a0_1)∧w'.cell? ⟨gb265,2,none⟩=some (.int .i64 a0_2)) (ds:=[]) #[false,false,false,false,false,false,false,false,false,false] (by kernel_rfl) rfl rfl ⟨q_ BK265 0 rfl,q_ BK265 1 rfl,q_ BK265 2 rfl⟩ (fun hHeld => ?_);refine with_tabW impl_FormatOrigin.tab10 impl_FormatOrigin.bits10 (fun HT_ HW_ => ?_);generalize w17.drew=w19 at BK265 HB hHeld ⊢;refine pure_ (i:=0) (N:=some 18) (v:=?_) (a':=?_) #[true,false,false,false,false,false,false,false,false,false] rfl rfl (any_of HT_.out (by kernel_rfl)) (fun _ _ _ h => h) (Or.inl ⟨by rfl,?_⟩) ?_ ?_;rotate_left
       ·intro w'
        go_simp
        with_reducible rfl
       rotate_left
       ·simp only [Act.put,Sa_,Sb_,Sc_,i64_w,i32_w]
        rfl
       refine pure_ (i:=1) (N:=some 19) (v:=?_) (a':=?_) #[true,true,false,false,false,false,false,false,false,false] rfl rfl (any_of HT_.out (by kernel_rfl)) (fun _ _ _ h => h) (Or.inl ⟨by rfl,?_⟩) ?_ ?_;rotate_left
       ·intro w'
        go_simp
        with_reducible rfl
       rotate_left
       ·simp only [Act.put,Sa_,Sb_,Sc_,i64_w,i32_w]
        rfl
       refine pure_ (i:=5) (N:=some 23) (v:=?_) (a':=?_) #[true,true,false,false,false,true,false,false,false,false] rfl rfl (any_of HT_.out (by kernel_rfl)) (fun _ _ _ h => h) (Or.inl ⟨by rfl,?_⟩) ?_ ?_;rotate_left
       ·intro w'
        go_simp
        with_reducible rfl
       rotate_left
       ·simp only [Act.put,Sa_,Sb_,Sc_,i64_w,i32_w]
        rfl
       refine take_ (i:=2) (N:=some 20) (v:=?_) (a':=?_) #[true,true,true,false,false,true,false,false,false,false] rfl rfl (take_ofW HT_.out HW_.out (by kernel_rfl)) (fun _ _ _ h => h) (Or.inl ⟨by rfl,?_⟩) hHeld ?_ ?_;rotate_left
       ·rintro w' ⟨s0,s1,s2⟩
        go_simp
        with_reducible rfl
       rotate_left
       ·simp only [Act.put,Sa_,Sb_,Sc_,i64_w,i32_w]
        rfl
       refine pure_ (i:=3) (N:=some 21) (v:=?_) (a':=?_) #[true,true,true,true,false,true,false,false,false,false] rfl rfl (any_of HT_.out (by kernel_rfl)) (fun _ _ _ h => h) (Or.inl ⟨by rfl,?_⟩) ?_ ?_;rotate_left
       ·intro w'
        go_simp
        with_reducible rfl
       rotate_left
       ·simp only [Act.put,Sa_,Sb_,Sc_,i64_w,i32_w]
        rfl
       refine pure_ (i:=4) (N:=some 22) (v:=?_) (a':=?_) #[true,true,true,true,true,true,false,false,false,false] rfl rfl (any_of HT_.out (by kernel_rfl)) (fun _ _ _ h => h) (Or.inl ⟨by rfl,?_⟩) ?_ ?_;rotate_left
       ·intro w'
        go_simp
        with_reducible rfl
       rotate_left
       ·simp only [Act.put,Sa_,Sb_,Sc_,i64_w,i32_w]
        rfl
       refine take_ (i:=6) (N:=some 24) (v:=?_) (a':=?_) #[true,true,true,true,true,true,true,false,false,false] rfl rfl (take_ofW HT_.out HW_.out (by kernel_rfl)) (fun _ _ _ h => h) (Or.inl ⟨by rfl,?_⟩) hHeld ?_ ?_;rotate_left
       ·rintro w' ⟨s0,s1,s2⟩
        go_simp
        with_reducible rfl
       rotate_left
       ·simp only [Act.put,Sa_,Sb_,Sc_,i64_w,i32_w]
        rfl
       refine one_ (i:=7) (N:=some 25) #[true,true,true,true,true,true,true,true,false,false] rfl rfl (one_of HT_.out (by kernel_rfl)) (by decide) (fun K hK => ?_);refine goes_ Tryd.func24 (by kernel_rfl) rfl #[.int .i64 a0_2] (by rfl) rfl rfl (by (try simp only [List.map_toArray,List.map_cons,List.map_nil]);first|done|rfl|(simp only [List.length_drop,List.length_take];rfl)) ?_;with_reducible refine (impl_FormatInt.calls (ht_:=Man.tab_on HT.out (xe_ HB)) a0_2 t267 _ A13.out).mono ?_;rintro e w20 ⟨rfl,hb⟩;refine ⟨_,rfl,?_⟩;replace BK265:=bb_ BK265 hb;replace HB:=bs_ HB hb;(try clear hb);(try clear hb2);(try clear hk);(try clear hi);refine hK.out _ _ ⟨q_ BK265 0 rfl,q_ BK265 1 rfl,q_ BK265 2 rfl⟩ (fun hHeld => ?_);clear hK K;refine norm_ (a':=?_) ?_ ?_;rotate_left
       ·show Act.put _ (some 25) _=_
        simp only [Act.put,Sa_,Sb_,Sc_,i64_w,i32_w]
        rfl
       refine pure_ (i:=8) (N:=some 26) (v:=?_) (a':=?_) #[true,true,true,true,true,true,true,true,true,false] rfl rfl (any_of HT_.out (by kernel_rfl)) (fun _ _ _ h => h) (Or.inl ⟨by rfl,?_⟩) ?_ ?_;rotate_left
       ·intro w'
        go_simp
        with_reducible rfl
       rotate_left
       ·simp only [Act.put,Sa_,Sb_,Sc_,i64_w,i32_w]
        rfl
       refine pure_ (i:=9) (N:=some 2) (v:=?_) (a':=?_) #[true,true,true,true,true,true,true,true,true,true] rfl rfl (any_of HT_.out (by kernel_rfl)) (fun _ _ _ h => h) (Or.inl ⟨by rfl,?_⟩) ?_ ?_;rotate_left
       ·intro w'
        go_simp
        with_reducible rfl
       rotate_left
       ·simp only [Act.put,Sa_,Sb_,Sc_,i64_w,i32_w]
        rfl
       refine done_ (done_of HT_.out (by kernel_rfl)) ?_
       try go_wp2
       go_ret
       exact ⟨by first|rfl|(simp [errW_none,errW_some] <;> rfl)|(simp [*,errW_none,errW_some] <;> rfl),by repeat (first|(with_reducible first|exact HB.out|apply below_alloc|apply pw_below_drewN|apply below_drew1|refine below_set ?_ GE265.out)|exact HB.out)⟩
      ·rw [if_neg c14] at H
       exact absurd H (by simp)
     ·rw [if_neg c12] at H
      exact absurd H (by simp)
    ·rw [if_neg c11] at H
     exact absurd H (by simp)
  ·replace c4:=Bool.eq_false_iff.mpr c4;subst c4
   rw [if_neg (show ¬ (false=true) by decide)] at H
   by_cases c21:a0_2=80
   ·rw [if_pos c21] at H
    have c21b0:(a0_2 == 80)=true:=beq_iff_eq.mpr c21;have c21b1:(a0_2 != 80)=false:=bne_eq_false_iff_eq.mpr c21;clear c21
    by_cases c22:7 + a0_1.size ≤ 9223372036854775807
    ·rw [if_pos c22] at H
     have c22b0:=eq_true c22;have c22b1:decide (7 + a0_1.size ≤ 9223372036854775807)=true:=decide_eq_true c22
     try have c22b2:(9223372036854775807 < 7 + a0_1.size)=False:=eq_false (Nat.not_lt.2 c22)
     obtain rfl:=Option.some.inj H
     go_enter Tryd.func10,Tryd.ntmps10
     go_wp2_with (first|((with_reducible refine gate_dst (N:=1) rfl ?_);refine box_event ?hg (N:=1) ?hd (cs:=#[.bool false,.string a0_1,.int .i64 a0_2]) (t:=26) ?hr ?_;(case hd => rfl);(case hg => rfl);(case hr => first|(go_simp;done)|(go_simp;rfl));intro gb265 hg w23 hbox hb;have n0_:=bs_ HB hb;have n1_:=Am9_ (hbox);have n2_:=gw_ hg HB;have n3_:=gw_ hg HB;clear HB;have HB:=n0_;have BK265:=n1_;have GW265:=n2_;have GE265:=n3_;clear n0_ n1_ n2_ n3_;clear hb hbox hg;have hcz24_0:w23.cell? ⟨gb265,0,none⟩=some (.bool false):=q_ BK265 0 rfl;have hcz24_1:w23.cell? ⟨gb265,1,none⟩=some (.string a0_1):=q_ BK265 1 rfl;have hcz24_2:w23.cell? ⟨gb265,2,none⟩=some (.int .i64 a0_2):=q_ BK265 2 rfl;have hfz24_0:=blk_frozen BK265.out 0;have hfz24_1:=blk_frozen BK265.out 1;have hfz24_2:=blk_frozen BK265.out 2)|((with_reducible refine gate_callee (f:=23) rfl ?_);refine goesL_ (some 6) rfl rfl Tryd.func23 (by kernel_rfl) rfl #[.agg #[.bool false,.string a0_1,.int .i64 a0_2]] rfl (by (try simp only [List.map_toArray,List.map_cons,List.map_nil]);first|done|rfl|(simp only [List.length_drop,List.length_take];rfl)) ?_;(with_reducible refine (impl_IsOrigin.calls k false a0_1 a0_2 true _ A2.out).mono ?_);rintro e w25 ⟨rfl,hb⟩;refine ⟨_,rfl,?_⟩;have n0_:=bb_ BK265 hb;have n1_:=bs_ HB hb;clear BK265;clear HB;have BK265:=n0_;have HB:=n1_;clear n0_ n1_;(try clear hb);(try clear hb2);(try clear hk);(try clear hi);have hcz26_0:w25.cell? ⟨gb265,0,none⟩=some (.bool false):=q_ BK265 0 rfl;have hcz26_1:w25.cell? ⟨gb265,1,none⟩=some (.string a0_1):=q_ BK265 1 rfl;have hcz26_2:w25.cell? ⟨gb265,2,none⟩=some (.int .i64 a0_2):=q_ BK265 2 rfl;have hfz26_0:=blk_frozen BK265.out 0;have hfz26_1:=blk_frozen BK265.out 1;have hfz26_2:=blk_frozen BK265.out 2))
     go_ret
     exact ⟨by first|rfl|(simp [errW_none,errW_some] <;> rfl)|(simp [*,errW_none,errW_some] <;> rfl),by repeat (first|(with_reducible first|exact HB.out|apply below_alloc|apply pw_below_drewN|apply below_drew1|refine below_set ?_ GE265.out)|exact HB.out)⟩
    ·rw [if_neg c22] at H
     exact absurd H (by simp)
   ·rw [if_neg c21] at H
    have c21b0:(a0_2 == 80)=false:=beq_eq_false_iff_ne.mpr c21;have c21b1:(a0_2 != 80)=true:=bne_iff_ne.mpr c21
    by_cases c27:7 + a0_1.size ≤ 9223372036854775807
    ·rw [if_pos c27] at H
     have c27b0:=eq_true c27;have c27b1:decide (7 + a0_1.size ≤ 9223372036854775807)=true:=decide_eq_true c27
     try have c27b2:(9223372036854775807 < 7 + a0_1.size)=False:=eq_false (Nat.not_lt.2 c27)
     by_cases c28:((⟨#[104,116,116,112,58,47,47]⟩:ByteArray) ++ a0_1).size + 1 ≤ 9223372036854775807
     ·rw [if_pos c28] at H
      have c28b0:=eq_true c28;have c28b1:decide (((⟨#[104,116,116,112,58,47,47]⟩:ByteArray) ++ a0_1).size + 1 ≤ 9223372036854775807)=true:=decide_eq_true c28
      try have c28b2:(9223372036854775807 < ((⟨#[104,116,116,112,58,47,47]⟩:ByteArray) ++ a0_1).size + 1)=False:=eq_false (Nat.not_lt.2 c28)
      have c28b3:(9223372036854775807 < 7 + a0_1.size + 1)=False:=by
       have e:=c28b2;simp only [ByteArray.size_append] at e;exact e
      replace H:=Option.bind_eq_some_iff.mp H;obtain ⟨t268,A290,H⟩:=H
      try dsimp only at H
      have A29:=Am9_ A290;clear A290
      by_cases c30:(((⟨#[104,116,116,112,58,47,47]⟩:ByteArray) ++ a0_1) ++ (⟨#[58]⟩:ByteArray)).size + t268.size ≤ 9223372036854775807
      ·rw [if_pos c30] at H
       have c30b0:=eq_true c30;have c30b1:decide ((((⟨#[104,116,116,112,58,47,47]⟩:ByteArray) ++ a0_1) ++ (⟨#[58]⟩:ByteArray)).size + t268.size ≤ 9223372036854775807)=true:=decide_eq_true c30
       try have c30b2:(9223372036854775807 < (((⟨#[104,116,116,112,58,47,47]⟩:ByteArray) ++ a0_1) ++ (⟨#[58]⟩:ByteArray)).size + t268.size)=False:=eq_false (Nat.not_lt.2 c30)
       have c30b3:(9223372036854775807 < 7 + a0_1.size + 1 + t268.size)=False:=by
        have e:=c30b2;simp only [ByteArray.size_append] at e;exact e
       obtain rfl:=Option.some.inj H
       go_enter Tryd.func10,Tryd.ntmps10
       try go_wp2_with (first|((with_reducible refine gate_dst (N:=1) rfl ?_);refine box_event ?hg (N:=1) ?hd (cs:=#[.bool false,.string a0_1,.int .i64 a0_2]) (t:=26) ?hr ?_;(case hd => rfl);(case hg => rfl);(case hr => first|(go_simp;done)|(go_simp;rfl));intro gb265 hg w31 hbox hb;have n0_:=bs_ HB hb;have n1_:=Am9_ (hbox);have n2_:=gw_ hg HB;have n3_:=gw_ hg HB;clear HB;have HB:=n0_;have BK265:=n1_;have GW265:=n2_;have GE265:=n3_;clear n0_ n1_ n2_ n3_;clear hb hbox hg;have hcz32_0:w31.cell? ⟨gb265,0,none⟩=some (.bool false):=q_ BK265 0 rfl;have hcz32_1:w31.cell? ⟨gb265,1,none⟩=some (.string a0_1):=q_ BK265 1 rfl;have hcz32_2:w31.cell? ⟨gb265,2,none⟩=some (.int .i64 a0_2):=q_ BK265 2 rfl;have hfz32_0:=blk_frozen BK265.out 0;have hfz32_1:=blk_frozen BK265.out 1;have hfz32_2:=blk_frozen BK265.out 2)|((with_reducible refine gate_callee (f:=23) rfl ?_);refine goesL_ (some 6) rfl rfl Tryd.func23 (by kernel_rfl) rfl #[.agg #[.bool false,.string a0_1,.int .i64 a0_2]] rfl (by (try simp only [List.map_toArray,List.map_cons,List.map_nil]);first|done|rfl|(simp only [List.length_drop,List.length_take];rfl)) ?_;(with_reducible refine (impl_IsOrigin.calls k false a0_1 a0_2 true _ A2.out).mono ?_);rintro e w33 ⟨rfl,hb⟩;refine ⟨_,rfl,?_⟩;have n0_:=bb_ BK265 hb;have n1_:=bs_ HB hb;clear BK265;clear HB;have BK265:=n0_;have HB:=n1_;clear n0_ n1_;(try clear hb);(try clear hb2);(try clear hk);(try clear hi);have hcz34_0:w33.cell? ⟨gb265,0,none⟩=some (.bool false):=q_ BK265 0 rfl;have hcz34_1:w33.cell? ⟨gb265,1,none⟩=some (.string a0_1):=q_ BK265 1 rfl;have hcz34_2:w33.cell? ⟨gb265,2,none⟩=some (.int .i64 a0_2):=q_ BK265 2 rfl;have hfz34_0:=blk_frozen BK265.out 0;have hfz34_1:=blk_frozen BK265.out 1;have hfz34_2:=blk_frozen BK265.out 2))
       replace BK265:=Am9_ (blk_drew BK265.out);replace HB:=Am9_ (below_drew1 HB.out);refine start_ (n:=10) (S:=fun w' => w'.cell? ⟨gb265,0,none⟩=some (.bool false)∧w'.cell? ⟨gb265,1,none⟩=some (.string a0_1)∧w'.cell? ⟨gb265,2,none⟩=some (.int .i64 a0_2)) (ds:=[]) #[false,false,false,false,false,false,false,false,false,false] (by kernel_rfl) rfl rfl ⟨q_ BK265 0 rfl,q_ BK265 1 rfl,q_ BK265 2 rfl⟩ (fun hHeld => ?_);refine with_tabW impl_FormatOrigin.tab10 impl_FormatOrigin.bits10 (fun HT_ HW_ => ?_);generalize w33.drew=w35 at BK265 HB hHeld ⊢;refine pure_ (i:=0) (N:=some 18) (v:=?_) (a':=?_) #[true,false,false,false,false,false,false,false,false,false] rfl rfl (any_of HT_.out (by kernel_rfl)) (fun _ _ _ h => h) (Or.inl ⟨by rfl,?_⟩) ?_ ?_;rotate_left
       ·intro w'
        go_simp
        with_reducible rfl
       rotate_left
       ·simp only [Act.put,Sa_,Sb_,Sc_,i64_w,i32_w]
        rfl
       refine pure_ (i:=1) (N:=some 19) (v:=?_) (a':=?_) #[true,true,false,false,false,false,false,false,false,false] rfl rfl (any_of HT_.out (by kernel_rfl)) (fun _ _ _ h => h) (Or.inl ⟨by rfl,?_⟩) ?_ ?_;rotate_left
       ·intro w'
        go_simp
        with_reducible rfl
       rotate_left
       ·simp only [Act.put,Sa_,Sb_,Sc_,i64_w,i32_w]
        rfl
       refine pure_ (i:=5) (N:=some 23) (v:=?_) (a':=?_) #[true,true,false,false,false,true,false,false,false,false] rfl rfl (any_of HT_.out (by kernel_rfl)) (fun _ _ _ h => h) (Or.inl ⟨by rfl,?_⟩) ?_ ?_;rotate_left
       ·intro w'
        go_simp
        with_reducible rfl
       rotate_left
       ·simp only [Act.put,Sa_,Sb_,Sc_,i64_w,i32_w]
        rfl
       refine take_ (i:=2) (N:=some 20) (v:=?_) (a':=?_) #[true,true,true,false,false,true,false,false,false,false] rfl rfl (take_ofW HT_.out HW_.out (by kernel_rfl)) (fun _ _ _ h => h) (Or.inl ⟨by rfl,?_⟩) hHeld ?_ ?_;rotate_left
       ·rintro w' ⟨s0,s1,s2⟩
        go_simp
        with_reducible rfl
       rotate_left
       ·simp only [Act.put,Sa_,Sb_,Sc_,i64_w,i32_w]
        rfl
       refine pure_ (i:=3) (N:=some 21) (v:=?_) (a':=?_) #[true,true,true,true,false,true,false,false,false,false] rfl rfl (any_of HT_.out (by kernel_rfl)) (fun _ _ _ h => h) (Or.inl ⟨by rfl,?_⟩) ?_ ?_;rotate_left
       ·intro w'
        go_simp
        with_reducible rfl
       rotate_left
       ·simp only [Act.put,Sa_,Sb_,Sc_,i64_w,i32_w]
        rfl
       refine pure_ (i:=4) (N:=some 22) (v:=?_) (a':=?_) #[true,true,true,true,true,true,false,false,false,false] rfl rfl (any_of HT_.out (by kernel_rfl)) (fun _ _ _ h => h) (Or.inl ⟨by rfl,?_⟩) ?_ ?_;rotate_left
       ·intro w'
        go_simp
        with_reducible rfl
       rotate_left
       ·simp only [Act.put,Sa_,Sb_,Sc_,i64_w,i32_w]
        rfl
       refine take_ (i:=6) (N:=some 24) (v:=?_) (a':=?_) #[true,true,true,true,true,true,true,false,false,false] rfl rfl (take_ofW HT_.out HW_.out (by kernel_rfl)) (fun _ _ _ h => h) (Or.inl ⟨by rfl,?_⟩) hHeld ?_ ?_;rotate_left
       ·rintro w' ⟨s0,s1,s2⟩
        go_simp
        with_reducible rfl
       rotate_left
       ·simp only [Act.put,Sa_,Sb_,Sc_,i64_w,i32_w]
        rfl
       refine one_ (i:=7) (N:=some 25) #[true,true,true,true,true,true,true,true,false,false] rfl rfl (one_of HT_.out (by kernel_rfl)) (by decide) (fun K hK => ?_);refine goes_ Tryd.func24 (by kernel_rfl) rfl #[.int .i64 a0_2] (by rfl) rfl rfl (by (try simp only [List.map_toArray,List.map_cons,List.map_nil]);first|done|rfl|(simp only [List.length_drop,List.length_take];rfl)) ?_;with_reducible refine (impl_FormatInt.calls (ht_:=Man.tab_on HT.out (xe_ HB)) a0_2 t268 _ A29.out).mono ?_;rintro e w36 ⟨rfl,hb⟩;refine ⟨_,rfl,?_⟩;replace BK265:=bb_ BK265 hb;replace HB:=bs_ HB hb;(try clear hb);(try clear hb2);(try clear hk);(try clear hi);refine hK.out _ _ ⟨q_ BK265 0 rfl,q_ BK265 1 rfl,q_ BK265 2 rfl⟩ (fun hHeld => ?_);clear hK K;refine norm_ (a':=?_) ?_ ?_;rotate_left
       ·show Act.put _ (some 25) _=_
        simp only [Act.put,Sa_,Sb_,Sc_,i64_w,i32_w]
        rfl
       refine pure_ (i:=8) (N:=some 26) (v:=?_) (a':=?_) #[true,true,true,true,true,true,true,true,true,false] rfl rfl (any_of HT_.out (by kernel_rfl)) (fun _ _ _ h => h) (Or.inl ⟨by rfl,?_⟩) ?_ ?_;rotate_left
       ·intro w'
        go_simp
        with_reducible rfl
       rotate_left
       ·simp only [Act.put,Sa_,Sb_,Sc_,i64_w,i32_w]
        rfl
       refine pure_ (i:=9) (N:=some 2) (v:=?_) (a':=?_) #[true,true,true,true,true,true,true,true,true,true] rfl rfl (any_of HT_.out (by kernel_rfl)) (fun _ _ _ h => h) (Or.inl ⟨by rfl,?_⟩) ?_ ?_;rotate_left
       ·intro w'
        go_simp
        with_reducible rfl
       rotate_left
       ·simp only [Act.put,Sa_,Sb_,Sc_,i64_w,i32_w]
        rfl
       refine done_ (done_of HT_.out (by kernel_rfl)) ?_
       try go_wp2
       go_ret
       exact ⟨by first|rfl|(simp [errW_none,errW_some] <;> rfl)|(simp [*,errW_none,errW_some] <;> rfl),by repeat (first|(with_reducible first|exact HB.out|apply below_alloc|apply pw_below_drewN|apply below_drew1|refine below_set ?_ GE265.out)|exact HB.out)⟩
      ·rw [if_neg c30] at H
       exact absurd H (by simp)
     ·rw [if_neg c28] at H
      exact absurd H (by simp)
    ·rw [if_neg c27] at H
     exact absurd H (by simp)
 ·replace c3:=Bool.eq_false_iff.mpr c3;subst c3
  rw [if_neg (show ¬ (false=true) by decide)] at H
  obtain rfl:=Option.some.inj H
  go_enter Tryd.func10,Tryd.ntmps10
  go_wp2_with (first|((with_reducible refine gate_dst (N:=1) rfl ?_);refine box_event ?hg (N:=1) ?hd (cs:=#[.bool a0_0,.string a0_1,.int .i64 a0_2]) (t:=26) ?hr ?_;(case hd => rfl);(case hg => rfl);(case hr => first|(go_simp;done)|(go_simp;rfl));intro gb265 hg w37 hbox hb;have n0_:=bs_ HB hb;have n1_:=Am9_ (hbox);have n2_:=gw_ hg HB;have n3_:=gw_ hg HB;clear HB;have HB:=n0_;have BK265:=n1_;have GW265:=n2_;have GE265:=n3_;clear n0_ n1_ n2_ n3_;clear hb hbox hg;have hcz38_0:w37.cell? ⟨gb265,0,none⟩=some (.bool a0_0):=q_ BK265 0 rfl;have hcz38_1:w37.cell? ⟨gb265,1,none⟩=some (.string a0_1):=q_ BK265 1 rfl;have hcz38_2:w37.cell? ⟨gb265,2,none⟩=some (.int .i64 a0_2):=q_ BK265 2 rfl;have hfz38_0:=blk_frozen BK265.out 0;have hfz38_1:=blk_frozen BK265.out 1;have hfz38_2:=blk_frozen BK265.out 2)|((with_reducible refine gate_callee (f:=23) rfl ?_);refine goesL_ (some 6) rfl rfl Tryd.func23 (by kernel_rfl) rfl #[.agg #[.bool a0_0,.string a0_1,.int .i64 a0_2]] rfl (by (try simp only [List.map_toArray,List.map_cons,List.map_nil]);first|done|rfl|(simp only [List.length_drop,List.length_take];rfl)) ?_;(with_reducible refine (impl_IsOrigin.calls k a0_0 a0_1 a0_2 false _ A2.out).mono ?_);rintro e w39 ⟨rfl,hb⟩;refine ⟨_,rfl,?_⟩;have n0_:=bb_ BK265 hb;have n1_:=bs_ HB hb;clear BK265;clear HB;have BK265:=n0_;have HB:=n1_;clear n0_ n1_;(try clear hb);(try clear hb2);(try clear hk);(try clear hi)))
  go_ret
  exact ⟨by first|rfl|(simp [errW_none,errW_some] <;> rfl)|(simp [*,errW_none,errW_some] <;> rfl),by repeat (first|(with_reducible first|exact HB.out|apply below_alloc|apply pw_below_drewN|apply below_drew1|refine below_set ?_ GE265.out)|exact HB.out)⟩


/-! ### strings_Contains: function 46 -/
def strings_Contains.f (a0:ByteArray) (a1:ByteArray):Option (Bool):=if a1=⟨#[46]⟩ then some (decide (0 ≤ Lib.indexByte a0.data.toList 46)) else none
theorem strings_Contains.calls (a0:ByteArray) (a1:ByteArray) (r:Bool) (w:World) (h:strings_Contains.f a0 a1=some r) :
  Calls Tryd.prog 46 #[.string a0,.string a1] w fun e w' => e=.returned (.bool r)∧Drawn0 w w':=by
 unfold strings_Contains.f at h
 by_cases hc:a1=⟨#[46]⟩
 case neg => rw [if_neg hc] at h;cases h
 rw [if_pos hc] at h
 subst hc;obtain rfl:=Option.some.inj h;exact (Any.strings_Contains_one Tryd.lays144 a0 46 w).mono fun e w' ⟨he,hw⟩ => ⟨he,hw ▸ Drawn0.refl w⟩

/-! ### stringslite_HasSuffix: function 67 -/
def stringslite_HasSuffix.f (a0:ByteArray) (a1:ByteArray):Option (Bool):=if (a0.size:Int) ≥ (a1.size:Int) then (if 0 ≤ (wrap64 ((a0.size:Int) - (a1.size:Int))) then (if (wrap64 ((a0.size:Int) - (a1.size:Int))) ≤ (a0.size:Int) then (some ((a0.extract ((wrap64 ((a0.size:Int) - (a1.size:Int))):Int).toNat a0.size).toList == a1.toList)) else (none)) else (none)) else (some false)
set_option maxHeartbeats 8000000 in
set_option maxRecDepth 100000 in
theorem stringslite_HasSuffix.calls (a0:ByteArray) (a1:ByteArray) (r:Bool) (w:World) (h:stringslite_HasSuffix.f a0 a1=some r) :
  Calls Tryd.prog 67 #[.string a0,.string a1] w fun e w' => e=.returned (.bool r)∧Drawn0 w w':=by
 have H:=h;unfold stringslite_HasSuffix.f at H;clear h
 by_cases c3:(a0.size:Int) ≥ (a1.size:Int)
 ·rw [if_pos c3] at H
  have c3b0:decide ((a1.size:Int) ≤ (a0.size:Int))=true:=decide_eq_true c3;have c3b1:decide (a1.size ≤ a0.size)=true:=decide_eq_true (Int.ofNat_le.mp c3);clear c3;obtain ⟨ji4,hji4⟩:∃ j_:Int,(wrap64 ((a0.size:Int) - (a1.size:Int)))=j_:=⟨_,rfl⟩;replace H:(if 0 ≤ (ji4) then (if (ji4) ≤ (a0.size:Int) then (some ((a0.extract ((ji4):Int).toNat a0.size).toList == a1.toList)) else (none)) else (none))=some r:=by first|(rw [hji4] at H;exact H)|(simp only [hji4] at H ⊢;exact H)
  have hji4w:(IntKind.i64.wrap ((a0.size:Int) - (a1.size:Int)))=ji4:=(i64_w _).trans hji4
  by_cases c5:0 ≤ (ji4)
  ·rw [if_pos c5] at H
   have c5b0:=eq_true c5;have c5b1:decide (0 ≤ (ji4))=true:=decide_eq_true c5;clear c5
   by_cases c6:(ji4) ≤ (a0.size:Int)
   ·rw [if_pos c6] at H
    have c6b0:=eq_true c6;have c6b1:decide ((ji4) ≤ (a0.size:Int))=true:=decide_eq_true c6;clear c6;obtain rfl:=Option.some.inj H
    go_enter Tryd.func67,Tryd.ntmps67
    go_wp2
    go_ret
    exact ⟨by first|rfl|(simp;done)|(simp only [← hji4] <;> (first|rfl|simp))|(simp [*];done),by repeat (first|exact Drawn0.refl _|apply Drawn0.step)⟩
   ·rw [if_neg c6] at H
    exact absurd H (by simp)
  ·rw [if_neg c5] at H
   exact absurd H (by simp)
 ·rw [if_neg c3] at H
  have c3b0:decide ((a1.size:Int) ≤ (a0.size:Int))=false:=decide_eq_false c3;have c3b1:decide (a1.size ≤ a0.size)=false:=decide_eq_false (fun h => c3 (Int.ofNat_le.mpr h));clear c3;obtain rfl:=Option.some.inj H
  go_enter Tryd.func67,Tryd.ntmps67
  go_wp2
  go_ret
  exact ⟨by first|rfl|(simp;done)|(simp [*];done),by repeat (first|exact Drawn0.refl _|apply Drawn0.step)⟩

/-! ### strings_HasSuffix: function 47 -/
def strings_HasSuffix.f (a0:ByteArray) (a1:ByteArray):Option (Bool):=(stringslite_HasSuffix.f a0 a1).bind fun t269 => (some t269)
set_option maxHeartbeats 8000000 in
set_option maxRecDepth 100000 in
theorem strings_HasSuffix.calls (a0:ByteArray) (a1:ByteArray) (r:Bool) (w:World) (h:strings_HasSuffix.f a0 a1=some r) :
  Calls Tryd.prog 47 #[.string a0,.string a1] w fun e w' => e=.returned (.bool r)∧Drawn0 w w':=by
 have H:((stringslite_HasSuffix.f a0 a1).bind fun t269 => (some t269))=some r:=h;clear h;replace H:=Option.bind_eq_some_iff.mp H;obtain ⟨t269,A30,H⟩:=H
 try dsimp only at H
 have A3:=Am9_ A30;clear A30;obtain rfl:=Option.some.inj H
 go_enter Tryd.func47,Tryd.ntmps47
 go_wp2_with (first|((with_reducible refine gate_callee (f:=67) rfl ?_);refine goesL_ (some 7) rfl rfl Tryd.func67 (by kernel_rfl) rfl #[.string a0,.string a1] rfl (by (try simp only [List.map_toArray,List.map_cons,List.map_nil]);first|done|rfl|(simp only [List.length_drop,List.length_take];rfl)) ?_;(with_reducible refine (stringslite_HasSuffix.calls a0 a1 t269 _ A3.out).mono ?_);rintro e w' ⟨rfl,⟨nd,rfl⟩⟩;refine ⟨_,rfl,?_⟩))
 go_ret
 exact ⟨by first|rfl|(simp;done)|(simp [*];done),by repeat (first|exact Drawn0.refl _|apply Drawn0.step)⟩

/-! ### impl_MayUse: function 28 -/
def impl_MayUse.f (k:Nat) (a0_0:Bool) (a0_1:ByteArray) (a0_2:Int) (a1:ByteArray):Option (Bool):=(impl_IsOrigin.f k a0_0 a0_1 a0_2).bind fun t271 => (if t271=true then (if a0_0=true then ((impl_IsHost.f k a1).bind fun t272 => (if t272=true then ((strings_Contains.f a1 (⟨#[46]⟩:ByteArray)).bind fun t273 => (if t273=true then (if a0_1.toList=a1.toList then (some true) else (if 1 + a1.size ≤ 9223372036854775807 then ((strings_HasSuffix.f a0_1 ((⟨#[46]⟩:ByteArray) ++ a1)).bind fun t274 => (some t274)) else (none))) else (some false))) else (some false))) else (some false)) else (some false))
theorem impl_MayUse.mono:∀ a0 a1 a2 a3 k,LeO (impl_MayUse.f k a0 a1 a2 a3) (impl_MayUse.f (k + 1) a0 a1 a2 a3):=by
 intro a0 a1 a2 a3 k
 unfold impl_MayUse.f
 repeat' first
  |(with_reducible exact impl_IsHost.mono _ _)
  |(with_reducible exact impl_IsOrigin.mono _ _ _ _)
  |(with_reducible exact LeO.refl _)
  |(with_reducible exact LeO.none _)
  |(with_reducible refine LeO.ite ?_ ?_)
  |(with_reducible refine LeO.bind ?_ (fun _ => ?_))
  |exact impl_IsHost.mono _ _
  |exact impl_IsOrigin.mono _ _ _ _
  |exact LeO.none _
  |refine LeO.ite ?_ ?_
  |refine LeO.bind ?_ (fun _ => ?_)
set_option maxHeartbeats 8000000 in
set_option maxRecDepth 100000 in
theorem impl_MayUse.calls (k:Nat) (a0_0:Bool) (a0_1:ByteArray) (a0_2:Int) (a1:ByteArray) (r:Bool) (w:World) (h:impl_MayUse.f k a0_0 a0_1 a0_2 a1=some r) :
  Calls Tryd.prog 28 #[.agg #[.bool a0_0,.string a0_1,.int .i64 a0_2],.string a1] w fun e w' => e=.returned (.bool r)∧Below w.heap.size w w':=by
 have hu26:=Tryd.underlying26;have HB:=Am9_ (Below.refl w.heap.size w);have H:=h;unfold impl_MayUse.f at H;clear h;replace H:=Option.bind_eq_some_iff.mp H;obtain ⟨t271,A30,H⟩:=H
 try dsimp only at H
 have A3:=Am9_ A30;clear A30
 by_cases c4:t271=true
 ·subst c4
  rw [if_pos rfl] at H
  by_cases c5:a0_0=true
  ·subst c5
   rw [if_pos rfl] at H
   replace H:=Option.bind_eq_some_iff.mp H;obtain ⟨t272,A60,H⟩:=H
   try dsimp only at H
   have A6:=Am9_ A60;clear A60
   by_cases c7:t272=true
   ·subst c7
    rw [if_pos rfl] at H
    replace H:=Option.bind_eq_some_iff.mp H;obtain ⟨t273,A80,H⟩:=H
    try dsimp only at H
    have A8:=Am9_ A80;clear A80
    by_cases c9:t273=true
    ·subst c9
     rw [if_pos rfl] at H
     by_cases c10:a0_1.toList=a1.toList
     ·rw [if_pos c10] at H
      have c10b0:(a0_1.toList == a1.toList)=true:=beq_iff_eq.mpr c10;have c10b1:(a0_1.toList != a1.toList)=false:=bne_eq_false_iff_eq.mpr c10;clear c10;obtain rfl:=Option.some.inj H
      go_enter Tryd.func28,Tryd.ntmps28
      go_wp2_with (first|((with_reducible refine gate_dst (N:=2) rfl ?_);refine box_event ?hg (N:=2) ?hd (cs:=#[.bool true,.string a0_1,.int .i64 a0_2]) (t:=26) ?hr ?_;(case hd => rfl);(case hg => rfl);(case hr => first|(go_simp;done)|(go_simp;rfl));intro gb270 hg w11 hbox hb;have n0_:=bs_ HB hb;have n1_:=Am9_ (hbox);have n2_:=gw_ hg HB;have n3_:=gw_ hg HB;clear HB;have HB:=n0_;have BK270:=n1_;have GW270:=n2_;have GE270:=n3_;clear n0_ n1_ n2_ n3_;clear hb hbox hg;have hcz12_0:w11.cell? ⟨gb270,0,none⟩=some (.bool true):=q_ BK270 0 rfl;have hcz12_1:w11.cell? ⟨gb270,1,none⟩=some (.string a0_1):=q_ BK270 1 rfl;have hcz12_2:w11.cell? ⟨gb270,2,none⟩=some (.int .i64 a0_2):=q_ BK270 2 rfl;have hfz12_0:=blk_frozen BK270.out 0;have hfz12_1:=blk_frozen BK270.out 1;have hfz12_2:=blk_frozen BK270.out 2)|((with_reducible refine gate_callee (f:=23) rfl ?_);refine goesL_ (some 6) rfl rfl Tryd.func23 (by kernel_rfl) rfl #[.agg #[.bool true,.string a0_1,.int .i64 a0_2]] rfl (by (try simp only [List.map_toArray,List.map_cons,List.map_nil]);first|done|rfl|(simp only [List.length_drop,List.length_take];rfl)) ?_;(with_reducible refine (impl_IsOrigin.calls k true a0_1 a0_2 true _ A3.out).mono ?_);rintro e w13 ⟨rfl,hb⟩;refine ⟨_,rfl,?_⟩;have n0_:=bb_ BK270 hb;have n1_:=bs_ HB hb;clear BK270;clear HB;have BK270:=n0_;have HB:=n1_;clear n0_ n1_;(try clear hb);(try clear hb2);(try clear hk);(try clear hi);have hcz14_0:w13.cell? ⟨gb270,0,none⟩=some (.bool true):=q_ BK270 0 rfl;have hcz14_1:w13.cell? ⟨gb270,1,none⟩=some (.string a0_1):=q_ BK270 1 rfl;have hcz14_2:w13.cell? ⟨gb270,2,none⟩=some (.int .i64 a0_2):=q_ BK270 2 rfl;have hfz14_0:=blk_frozen BK270.out 0;have hfz14_1:=blk_frozen BK270.out 1;have hfz14_2:=blk_frozen BK270.out 2)|(go_at_call 37;(with_reducible refine (impl_IsHost.calls k a1 true _ A6.out).mono ?_);rintro e w15 ⟨rfl,hb⟩;have n0_:=bb_ BK270 hb;have n1_:=bs_ HB hb;clear BK270;clear HB;have BK270:=n0_;have HB:=n1_;clear n0_ n1_;(try clear hb);(try clear hb2);(try clear hk);(try clear hi))|(go_at_call 46;(with_reducible refine (strings_Contains.calls a1 (⟨#[46]⟩:ByteArray) true _ A8.out).mono ?_);rintro e w' ⟨rfl,⟨nd,rfl⟩⟩;have hcz16_0:w15.cell? ⟨gb270,0,none⟩=some (.bool true):=q_ BK270 0 rfl;have hcz16_1:w15.cell? ⟨gb270,1,none⟩=some (.string a0_1):=q_ BK270 1 rfl;have hcz16_2:w15.cell? ⟨gb270,2,none⟩=some (.int .i64 a0_2):=q_ BK270 2 rfl;have hfz16_0:=blk_frozen BK270.out 0;have hfz16_1:=blk_frozen BK270.out 1;have hfz16_2:=blk_frozen BK270.out 2))
      go_ret
      exact ⟨by first|rfl|(simp [errW_none,errW_some] <;> rfl)|(simp [*,errW_none,errW_some] <;> rfl),by repeat (first|(with_reducible first|exact HB.out|apply below_alloc|apply pw_below_drewN|apply below_drew1|refine below_set ?_ GE270.out)|exact HB.out)⟩
     ·rw [if_neg c10] at H
      have c10b0:(a0_1.toList == a1.toList)=false:=beq_eq_false_iff_ne.mpr c10;have c10b1:(a0_1.toList != a1.toList)=true:=bne_iff_ne.mpr c10
      by_cases c17:1 + a1.size ≤ 9223372036854775807
      ·rw [if_pos c17] at H
       have c17b0:=eq_true c17;have c17b1:decide (1 + a1.size ≤ 9223372036854775807)=true:=decide_eq_true c17
       try have c17b2:(9223372036854775807 < 1 + a1.size)=False:=eq_false (Nat.not_lt.2 c17)
       replace H:=Option.bind_eq_some_iff.mp H;obtain ⟨t274,A180,H⟩:=H
       try dsimp only at H
       have A18:=Am9_ A180;clear A180;obtain rfl:=Option.some.inj H
       go_enter Tryd.func28,Tryd.ntmps28
       go_wp2_with (first|((with_reducible refine gate_dst (N:=2) rfl ?_);refine box_event ?hg (N:=2) ?hd (cs:=#[.bool true,.string a0_1,.int .i64 a0_2]) (t:=26) ?hr ?_;(case hd => rfl);(case hg => rfl);(case hr => first|(go_simp;done)|(go_simp;rfl));intro gb270 hg w19 hbox hb;have n0_:=bs_ HB hb;have n1_:=Am9_ (hbox);have n2_:=gw_ hg HB;have n3_:=gw_ hg HB;clear HB;have HB:=n0_;have BK270:=n1_;have GW270:=n2_;have GE270:=n3_;clear n0_ n1_ n2_ n3_;clear hb hbox hg;have hcz20_0:w19.cell? ⟨gb270,0,none⟩=some (.bool true):=q_ BK270 0 rfl;have hcz20_1:w19.cell? ⟨gb270,1,none⟩=some (.string a0_1):=q_ BK270 1 rfl;have hcz20_2:w19.cell? ⟨gb270,2,none⟩=some (.int .i64 a0_2):=q_ BK270 2 rfl;have hfz20_0:=blk_frozen BK270.out 0;have hfz20_1:=blk_frozen BK270.out 1;have hfz20_2:=blk_frozen BK270.out 2)|((with_reducible refine gate_callee (f:=23) rfl ?_);refine goesL_ (some 6) rfl rfl Tryd.func23 (by kernel_rfl) rfl #[.agg #[.bool true,.string a0_1,.int .i64 a0_2]] rfl (by (try simp only [List.map_toArray,List.map_cons,List.map_nil]);first|done|rfl|(simp only [List.length_drop,List.length_take];rfl)) ?_;(with_reducible refine (impl_IsOrigin.calls k true a0_1 a0_2 true _ A3.out).mono ?_);rintro e w21 ⟨rfl,hb⟩;refine ⟨_,rfl,?_⟩;have n0_:=bb_ BK270 hb;have n1_:=bs_ HB hb;clear BK270;clear HB;have BK270:=n0_;have HB:=n1_;clear n0_ n1_;(try clear hb);(try clear hb2);(try clear hk);(try clear hi);have hcz22_0:w21.cell? ⟨gb270,0,none⟩=some (.bool true):=q_ BK270 0 rfl;have hcz22_1:w21.cell? ⟨gb270,1,none⟩=some (.string a0_1):=q_ BK270 1 rfl;have hcz22_2:w21.cell? ⟨gb270,2,none⟩=some (.int .i64 a0_2):=q_ BK270 2 rfl;have hfz22_0:=blk_frozen BK270.out 0;have hfz22_1:=blk_frozen BK270.out 1;have hfz22_2:=blk_frozen BK270.out 2)|(go_at_call 37;(with_reducible refine (impl_IsHost.calls k a1 true _ A6.out).mono ?_);rintro e w23 ⟨rfl,hb⟩;have n0_:=bb_ BK270 hb;have n1_:=bs_ HB hb;clear BK270;clear HB;have BK270:=n0_;have HB:=n1_;clear n0_ n1_;(try clear hb);(try clear hb2);(try clear hk);(try clear hi))|(go_at_call 46;(with_reducible refine (strings_Contains.calls a1 (⟨#[46]⟩:ByteArray) true _ A8.out).mono ?_);rintro e w' ⟨rfl,⟨nd,rfl⟩⟩;have hcz24_0:w23.cell? ⟨gb270,0,none⟩=some (.bool true):=q_ BK270 0 rfl;have hcz24_1:w23.cell? ⟨gb270,1,none⟩=some (.string a0_1):=q_ BK270 1 rfl;have hcz24_2:w23.cell? ⟨gb270,2,none⟩=some (.int .i64 a0_2):=q_ BK270 2 rfl;have hfz24_0:=blk_frozen BK270.out 0;have hfz24_1:=blk_frozen BK270.out 1;have hfz24_2:=blk_frozen BK270.out 2)|(go_at_call 47;(with_reducible refine (strings_HasSuffix.calls a0_1 ((⟨#[46]⟩:ByteArray) ++ a1) t274 _ A18.out).mono ?_);rintro e w' ⟨rfl,⟨nd,rfl⟩⟩))
       go_ret
       exact ⟨by first|rfl|(simp [errW_none,errW_some] <;> rfl)|(simp [*,errW_none,errW_some] <;> rfl),by repeat (first|(with_reducible first|exact HB.out|apply below_alloc|apply pw_below_drewN|apply below_drew1|refine below_set ?_ GE270.out)|exact HB.out)⟩
      ·rw [if_neg c17] at H
       exact absurd H (by simp)
    ·replace c9:=Bool.eq_false_iff.mpr c9;subst c9
     rw [if_neg (show ¬ (false=true) by decide)] at H
     obtain rfl:=Option.some.inj H
     go_enter Tryd.func28,Tryd.ntmps28
     go_wp2_with (first|((with_reducible refine gate_dst (N:=2) rfl ?_);refine box_event ?hg (N:=2) ?hd (cs:=#[.bool true,.string a0_1,.int .i64 a0_2]) (t:=26) ?hr ?_;(case hd => rfl);(case hg => rfl);(case hr => first|(go_simp;done)|(go_simp;rfl));intro gb270 hg w25 hbox hb;have n0_:=bs_ HB hb;have n1_:=Am9_ (hbox);have n2_:=gw_ hg HB;have n3_:=gw_ hg HB;clear HB;have HB:=n0_;have BK270:=n1_;have GW270:=n2_;have GE270:=n3_;clear n0_ n1_ n2_ n3_;clear hb hbox hg;have hcz26_0:w25.cell? ⟨gb270,0,none⟩=some (.bool true):=q_ BK270 0 rfl;have hcz26_1:w25.cell? ⟨gb270,1,none⟩=some (.string a0_1):=q_ BK270 1 rfl;have hcz26_2:w25.cell? ⟨gb270,2,none⟩=some (.int .i64 a0_2):=q_ BK270 2 rfl;have hfz26_0:=blk_frozen BK270.out 0;have hfz26_1:=blk_frozen BK270.out 1;have hfz26_2:=blk_frozen BK270.out 2)|((with_reducible refine gate_callee (f:=23) rfl ?_);refine goesL_ (some 6) rfl rfl Tryd.func23 (by kernel_rfl) rfl #[.agg #[.bool true,.string a0_1,.int .i64 a0_2]] rfl (by (try simp only [List.map_toArray,List.map_cons,List.map_nil]);first|done|rfl|(simp only [List.length_drop,List.length_take];rfl)) ?_;(with_reducible refine (impl_IsOrigin.calls k true a0_1 a0_2 true _ A3.out).mono ?_);rintro e w27 ⟨rfl,hb⟩;refine ⟨_,rfl,?_⟩;have n0_:=bb_ BK270 hb;have n1_:=bs_ HB hb;clear BK270;clear HB;have BK270:=n0_;have HB:=n1_;clear n0_ n1_;(try clear hb);(try clear hb2);(try clear hk);(try clear hi);have hcz28_0:w27.cell? ⟨gb270,0,none⟩=some (.bool true):=q_ BK270 0 rfl;have hcz28_1:w27.cell? ⟨gb270,1,none⟩=some (.string a0_1):=q_ BK270 1 rfl;have hcz28_2:w27.cell? ⟨gb270,2,none⟩=some (.int .i64 a0_2):=q_ BK270 2 rfl;have hfz28_0:=blk_frozen BK270.out 0;have hfz28_1:=blk_frozen BK270.out 1;have hfz28_2:=blk_frozen BK270.out 2)|(go_at_call 37;(with_reducible refine (impl_IsHost.calls k a1 true _ A6.out).mono ?_);rintro e w29 ⟨rfl,hb⟩;have n0_:=bb_ BK270 hb;have n1_:=bs_ HB hb;clear BK270;clear HB;have BK270:=n0_;have HB:=n1_;clear n0_ n1_;(try clear hb);(try clear hb2);(try clear hk);(try clear hi))|(go_at_call 46;(with_reducible refine (strings_Contains.calls a1 (⟨#[46]⟩:ByteArray) false _ A8.out).mono ?_);rintro e w' ⟨rfl,⟨nd,rfl⟩⟩))
     go_ret
     exact ⟨by first|rfl|(simp [errW_none,errW_some] <;> rfl)|(simp [*,errW_none,errW_some] <;> rfl),by repeat (first|(with_reducible first|exact HB.out|apply below_alloc|apply pw_below_drewN|apply below_drew1|refine below_set ?_ GE270.out)|exact HB.out)⟩
   ·replace c7:=Bool.eq_false_iff.mpr c7;subst c7
    rw [if_neg (show ¬ (false=true) by decide)] at H
    obtain rfl:=Option.some.inj H
    go_enter Tryd.func28,Tryd.ntmps28
    go_wp2_with (first|((with_reducible refine gate_dst (N:=2) rfl ?_);refine box_event ?hg (N:=2) ?hd (cs:=#[.bool true,.string a0_1,.int .i64 a0_2]) (t:=26) ?hr ?_;(case hd => rfl);(case hg => rfl);(case hr => first|(go_simp;done)|(go_simp;rfl));intro gb270 hg w30 hbox hb;have n0_:=bs_ HB hb;have n1_:=Am9_ (hbox);have n2_:=gw_ hg HB;have n3_:=gw_ hg HB;clear HB;have HB:=n0_;have BK270:=n1_;have GW270:=n2_;have GE270:=n3_;clear n0_ n1_ n2_ n3_;clear hb hbox hg;have hcz31_0:w30.cell? ⟨gb270,0,none⟩=some (.bool true):=q_ BK270 0 rfl;have hcz31_1:w30.cell? ⟨gb270,1,none⟩=some (.string a0_1):=q_ BK270 1 rfl;have hcz31_2:w30.cell? ⟨gb270,2,none⟩=some (.int .i64 a0_2):=q_ BK270 2 rfl;have hfz31_0:=blk_frozen BK270.out 0;have hfz31_1:=blk_frozen BK270.out 1;have hfz31_2:=blk_frozen BK270.out 2)|((with_reducible refine gate_callee (f:=23) rfl ?_);refine goesL_ (some 6) rfl rfl Tryd.func23 (by kernel_rfl) rfl #[.agg #[.bool true,.string a0_1,.int .i64 a0_2]] rfl (by (try simp only [List.map_toArray,List.map_cons,List.map_nil]);first|done|rfl|(simp only [List.length_drop,List.length_take];rfl)) ?_;(with_reducible refine (impl_IsOrigin.calls k true a0_1 a0_2 true _ A3.out).mono ?_);rintro e w32 ⟨rfl,hb⟩;refine ⟨_,rfl,?_⟩;have n0_:=bb_ BK270 hb;have n1_:=bs_ HB hb;clear BK270;clear HB;have BK270:=n0_;have HB:=n1_;clear n0_ n1_;(try clear hb);(try clear hb2);(try clear hk);(try clear hi);have hcz33_0:w32.cell? ⟨gb270,0,none⟩=some (.bool true):=q_ BK270 0 rfl;have hcz33_1:w32.cell? ⟨gb270,1,none⟩=some (.string a0_1):=q_ BK270 1 rfl;have hcz33_2:w32.cell? ⟨gb270,2,none⟩=some (.int .i64 a0_2):=q_ BK270 2 rfl;have hfz33_0:=blk_frozen BK270.out 0;have hfz33_1:=blk_frozen BK270.out 1;have hfz33_2:=blk_frozen BK270.out 2)|(go_at_call 37;(with_reducible refine (impl_IsHost.calls k a1 false _ A6.out).mono ?_);rintro e w34 ⟨rfl,hb⟩;have n0_:=bb_ BK270 hb;have n1_:=bs_ HB hb;clear BK270;clear HB;have BK270:=n0_;have HB:=n1_;clear n0_ n1_;(try clear hb);(try clear hb2);(try clear hk);(try clear hi)))
    go_ret
    exact ⟨by first|rfl|(simp [errW_none,errW_some] <;> rfl)|(simp [*,errW_none,errW_some] <;> rfl),by repeat (first|(with_reducible first|exact HB.out|apply below_alloc|apply pw_below_drewN|apply below_drew1|refine below_set ?_ GE270.out)|exact HB.out)⟩
  ·replace c5:=Bool.eq_false_iff.mpr c5;subst c5
   rw [if_neg (show ¬ (false=true) by decide)] at H
   obtain rfl:=Option.some.inj H
   go_enter Tryd.func28,Tryd.ntmps28
   go_wp2_with (first|((with_reducible refine gate_dst (N:=2) rfl ?_);refine box_event ?hg (N:=2) ?hd (cs:=#[.bool false,.string a0_1,.int .i64 a0_2]) (t:=26) ?hr ?_;(case hd => rfl);(case hg => rfl);(case hr => first|(go_simp;done)|(go_simp;rfl));intro gb270 hg w35 hbox hb;have n0_:=bs_ HB hb;have n1_:=Am9_ (hbox);have n2_:=gw_ hg HB;have n3_:=gw_ hg HB;clear HB;have HB:=n0_;have BK270:=n1_;have GW270:=n2_;have GE270:=n3_;clear n0_ n1_ n2_ n3_;clear hb hbox hg;have hcz36_0:w35.cell? ⟨gb270,0,none⟩=some (.bool false):=q_ BK270 0 rfl;have hcz36_1:w35.cell? ⟨gb270,1,none⟩=some (.string a0_1):=q_ BK270 1 rfl;have hcz36_2:w35.cell? ⟨gb270,2,none⟩=some (.int .i64 a0_2):=q_ BK270 2 rfl;have hfz36_0:=blk_frozen BK270.out 0;have hfz36_1:=blk_frozen BK270.out 1;have hfz36_2:=blk_frozen BK270.out 2)|((with_reducible refine gate_callee (f:=23) rfl ?_);refine goesL_ (some 6) rfl rfl Tryd.func23 (by kernel_rfl) rfl #[.agg #[.bool false,.string a0_1,.int .i64 a0_2]] rfl (by (try simp only [List.map_toArray,List.map_cons,List.map_nil]);first|done|rfl|(simp only [List.length_drop,List.length_take];rfl)) ?_;(with_reducible refine (impl_IsOrigin.calls k false a0_1 a0_2 true _ A3.out).mono ?_);rintro e w37 ⟨rfl,hb⟩;refine ⟨_,rfl,?_⟩;have n0_:=bb_ BK270 hb;have n1_:=bs_ HB hb;clear BK270;clear HB;have BK270:=n0_;have HB:=n1_;clear n0_ n1_;(try clear hb);(try clear hb2);(try clear hk);(try clear hi);have hcz38_0:w37.cell? ⟨gb270,0,none⟩=some (.bool false):=q_ BK270 0 rfl;have hcz38_1:w37.cell? ⟨gb270,1,none⟩=some (.string a0_1):=q_ BK270 1 rfl;have hcz38_2:w37.cell? ⟨gb270,2,none⟩=some (.int .i64 a0_2):=q_ BK270 2 rfl;have hfz38_0:=blk_frozen BK270.out 0;have hfz38_1:=blk_frozen BK270.out 1;have hfz38_2:=blk_frozen BK270.out 2))
   go_ret
   exact ⟨by first|rfl|(simp [errW_none,errW_some] <;> rfl)|(simp [*,errW_none,errW_some] <;> rfl),by repeat (first|(with_reducible first|exact HB.out|apply below_alloc|apply pw_below_drewN|apply below_drew1|refine below_set ?_ GE270.out)|exact HB.out)⟩
 ·replace c4:=Bool.eq_false_iff.mpr c4;subst c4
  rw [if_neg (show ¬ (false=true) by decide)] at H
  obtain rfl:=Option.some.inj H
  go_enter Tryd.func28,Tryd.ntmps28
  go_wp2_with (first|((with_reducible refine gate_dst (N:=2) rfl ?_);refine box_event ?hg (N:=2) ?hd (cs:=#[.bool a0_0,.string a0_1,.int .i64 a0_2]) (t:=26) ?hr ?_;(case hd => rfl);(case hg => rfl);(case hr => first|(go_simp;done)|(go_simp;rfl));intro gb270 hg w39 hbox hb;have n0_:=bs_ HB hb;have n1_:=Am9_ (hbox);have n2_:=gw_ hg HB;have n3_:=gw_ hg HB;clear HB;have HB:=n0_;have BK270:=n1_;have GW270:=n2_;have GE270:=n3_;clear n0_ n1_ n2_ n3_;clear hb hbox hg;have hcz40_0:w39.cell? ⟨gb270,0,none⟩=some (.bool a0_0):=q_ BK270 0 rfl;have hcz40_1:w39.cell? ⟨gb270,1,none⟩=some (.string a0_1):=q_ BK270 1 rfl;have hcz40_2:w39.cell? ⟨gb270,2,none⟩=some (.int .i64 a0_2):=q_ BK270 2 rfl;have hfz40_0:=blk_frozen BK270.out 0;have hfz40_1:=blk_frozen BK270.out 1;have hfz40_2:=blk_frozen BK270.out 2)|((with_reducible refine gate_callee (f:=23) rfl ?_);refine goesL_ (some 6) rfl rfl Tryd.func23 (by kernel_rfl) rfl #[.agg #[.bool a0_0,.string a0_1,.int .i64 a0_2]] rfl (by (try simp only [List.map_toArray,List.map_cons,List.map_nil]);first|done|rfl|(simp only [List.length_drop,List.length_take];rfl)) ?_;(with_reducible refine (impl_IsOrigin.calls k a0_0 a0_1 a0_2 false _ A3.out).mono ?_);rintro e w41 ⟨rfl,hb⟩;refine ⟨_,rfl,?_⟩;have n0_:=bb_ BK270 hb;have n1_:=bs_ HB hb;clear BK270;clear HB;have BK270:=n0_;have HB:=n1_;clear n0_ n1_;(try clear hb);(try clear hb2);(try clear hk);(try clear hi)))
  go_ret
  exact ⟨by first|rfl|(simp [errW_none,errW_some] <;> rfl)|(simp [*,errW_none,errW_some] <;> rfl),by repeat (first|(with_reducible first|exact HB.out|apply below_alloc|apply pw_below_drewN|apply below_drew1|refine below_set ?_ GE270.out)|exact HB.out)⟩

/-! ### impl_IsValidKey: function 68 -/
def impl_IsValidKey.f (a0:Int):Option (Bool):=(impl_InRange.f a0 1 2147483646).bind fun t275 => (some t275)
set_option maxHeartbeats 8000000 in
set_option maxRecDepth 100000 in
theorem impl_IsValidKey.calls (a0:Int) (r:Bool) (w:World) (h:impl_IsValidKey.f a0=some r) :
  Calls Tryd.prog 68 #[.int .i64 a0] w fun e w' => e=.returned (.bool r)∧Drawn0 w w':=by
 have H:((impl_InRange.f a0 1 2147483646).bind fun t275 => (some t275))=some r:=h;clear h;replace H:=Option.bind_eq_some_iff.mp H;obtain ⟨t275,A20,H⟩:=H
 try dsimp only at H
 have A2:=Am9_ A20;clear A20;obtain rfl:=Option.some.inj H
 go_enter Tryd.func68,Tryd.ntmps68
 go_wp2_with (first|((with_reducible refine gate_callee (f:=38) rfl ?_);refine goesL_ (some 4) rfl rfl Tryd.func38 (by kernel_rfl) rfl #[.int .i64 a0,.int .i64 1,.int .i64 2147483646] rfl (by (try simp only [List.map_toArray,List.map_cons,List.map_nil]);first|done|rfl|(simp only [List.length_drop,List.length_take];rfl)) ?_;(with_reducible refine (impl_InRange.calls a0 1 2147483646 t275 _ A2.out).mono ?_);rintro e w' ⟨rfl,⟨nd,rfl⟩⟩;refine ⟨_,rfl,?_⟩))
 go_ret
 exact ⟨by first|rfl|(simp;done)|(simp [*];done),by repeat (first|exact Drawn0.refl _|apply Drawn0.step)⟩

/-! ### impl_IsValidStore: function 48 -/
def impl_IsValidStore.f (a0_0:Int) (a0_1:Int) (a0_2:Int) (a0_3:Int):Option (Bool):=(impl_InRange.f a0_0 1 9).bind fun t277 => (if t277=true then ((impl_InRange.f a0_1 0 1000000).bind fun t278 => (if t278=true then ((impl_IsValidKey.f a0_2).bind fun t279 => (if t279=true then ((impl_InRange.f a0_3 0 1000000).bind fun t280 => (some t280)) else (some false))) else (some false))) else (some false))
set_option maxHeartbeats 8000000 in
set_option maxRecDepth 100000 in
theorem impl_IsValidStore.calls (a0_0:Int) (a0_1:Int) (a0_2:Int) (a0_3:Int) (r:Bool) (w:World) (h:impl_IsValidStore.f a0_0 a0_1 a0_2 a0_3=some r) :
  Calls Tryd.prog 48 #[.agg #[.int .i64 a0_0,.int .i64 a0_1,.int .i64 a0_2,.int .i64 a0_3]] w fun e w' => e=.returned (.bool r)∧Below w.heap.size w w':=by
 have hu31:=Tryd.underlying31;have HB:=Am9_ (Below.refl w.heap.size w);have H:=h;unfold impl_IsValidStore.f at H;clear h;replace H:=Option.bind_eq_some_iff.mp H;obtain ⟨t277,A20,H⟩:=H
 try dsimp only at H
 have A2:=Am9_ A20;clear A20
 by_cases c3:t277=true
 ·subst c3
  rw [if_pos rfl] at H
  replace H:=Option.bind_eq_some_iff.mp H;obtain ⟨t278,A40,H⟩:=H
  try dsimp only at H
  have A4:=Am9_ A40;clear A40
  by_cases c5:t278=true
  ·subst c5
   rw [if_pos rfl] at H
   replace H:=Option.bind_eq_some_iff.mp H;obtain ⟨t279,A60,H⟩:=H
   try dsimp only at H
   have A6:=Am9_ A60;clear A60
   by_cases c7:t279=true
   ·subst c7
    rw [if_pos rfl] at H
    replace H:=Option.bind_eq_some_iff.mp H;obtain ⟨t280,A80,H⟩:=H
    try dsimp only at H
    have A8:=Am9_ A80;clear A80;obtain rfl:=Option.some.inj H
    go_enter Tryd.func48,Tryd.ntmps48
    go_wp2_with (first|((with_reducible refine gate_dst (N:=1) rfl ?_);refine box_event ?hg (N:=1) ?hd (cs:=#[.int .i64 a0_0,.int .i64 a0_1,.int .i64 a0_2,.int .i64 a0_3]) (t:=31) ?hr ?_;(case hd => rfl);(case hg => rfl);(case hr => first|(go_simp;done)|(go_simp;rfl));intro gb276 hg w9 hbox hb;have n0_:=bs_ HB hb;have n1_:=Am9_ (hbox);have n2_:=gw_ hg HB;have n3_:=gw_ hg HB;clear HB;have HB:=n0_;have BK276:=n1_;have GW276:=n2_;have GE276:=n3_;clear n0_ n1_ n2_ n3_;clear hb hbox hg;have hcz10_0:w9.cell? ⟨gb276,0,none⟩=some (.int .i64 a0_0):=q_ BK276 0 rfl;have hcz10_1:w9.cell? ⟨gb276,1,none⟩=some (.int .i64 a0_1):=q_ BK276 1 rfl;have hcz10_2:w9.cell? ⟨gb276,2,none⟩=some (.int .i64 a0_2):=q_ BK276 2 rfl;have hcz10_3:w9.cell? ⟨gb276,3,none⟩=some (.int .i64 a0_3):=q_ BK276 3 rfl;have hfz10_0:=blk_frozen BK276.out 0;have hfz10_1:=blk_frozen BK276.out 1;have hfz10_2:=blk_frozen BK276.out 2;have hfz10_3:=blk_frozen BK276.out 3)|((with_reducible refine gate_callee (f:=38) rfl ?_);refine goesL_ (some 5) rfl rfl Tryd.func38 (by kernel_rfl) rfl #[.int .i64 a0_0,.int .i64 1,.int .i64 9] rfl (by (try simp only [List.map_toArray,List.map_cons,List.map_nil]);first|done|rfl|(simp only [List.length_drop,List.length_take];rfl)) ?_;(with_reducible refine (impl_InRange.calls a0_0 1 9 true _ A2.out).mono ?_);rintro e w' ⟨rfl,⟨nd,rfl⟩⟩;refine ⟨_,rfl,?_⟩)|(go_at_call 38;(with_reducible refine (impl_InRange.calls a0_1 0 1000000 true _ A4.out).mono ?_);rintro e w' ⟨rfl,⟨nd,rfl⟩⟩)|(go_at_call 68;(with_reducible refine (impl_IsValidKey.calls a0_2 true _ A6.out).mono ?_);rintro e w' ⟨rfl,⟨nd,rfl⟩⟩)|(go_at_call 38;(with_reducible refine (impl_InRange.calls a0_3 0 1000000 t280 _ A8.out).mono ?_);rintro e w' ⟨rfl,⟨nd,rfl⟩⟩))
    go_ret
    exact ⟨by first|rfl|(simp [errW_none,errW_some] <;> rfl)|(simp [*,errW_none,errW_some] <;> rfl),by repeat (first|(with_reducible first|exact HB.out|apply below_alloc|apply pw_below_drewN|apply below_drew1|refine below_set ?_ GE276.out)|exact HB.out)⟩
   ·replace c7:=Bool.eq_false_iff.mpr c7;subst c7
    rw [if_neg (show ¬ (false=true) by decide)] at H
    obtain rfl:=Option.some.inj H
    go_enter Tryd.func48,Tryd.ntmps48
    go_wp2_with (first|((with_reducible refine gate_dst (N:=1) rfl ?_);refine box_event ?hg (N:=1) ?hd (cs:=#[.int .i64 a0_0,.int .i64 a0_1,.int .i64 a0_2,.int .i64 a0_3]) (t:=31) ?hr ?_;(case hd => rfl);(case hg => rfl);(case hr => first|(go_simp;done)|(go_simp;rfl));intro gb276 hg w11 hbox hb;have n0_:=bs_ HB hb;have n1_:=Am9_ (hbox);have n2_:=gw_ hg HB;have n3_:=gw_ hg HB;clear HB;have HB:=n0_;have BK276:=n1_;have GW276:=n2_;have GE276:=n3_;clear n0_ n1_ n2_ n3_;clear hb hbox hg;have hcz12_0:w11.cell? ⟨gb276,0,none⟩=some (.int .i64 a0_0):=q_ BK276 0 rfl;have hcz12_1:w11.cell? ⟨gb276,1,none⟩=some (.int .i64 a0_1):=q_ BK276 1 rfl;have hcz12_2:w11.cell? ⟨gb276,2,none⟩=some (.int .i64 a0_2):=q_ BK276 2 rfl;have hcz12_3:w11.cell? ⟨gb276,3,none⟩=some (.int .i64 a0_3):=q_ BK276 3 rfl;have hfz12_0:=blk_frozen BK276.out 0;have hfz12_1:=blk_frozen BK276.out 1;have hfz12_2:=blk_frozen BK276.out 2;have hfz12_3:=blk_frozen BK276.out 3)|((with_reducible refine gate_callee (f:=38) rfl ?_);refine goesL_ (some 5) rfl rfl Tryd.func38 (by kernel_rfl) rfl #[.int .i64 a0_0,.int .i64 1,.int .i64 9] rfl (by (try simp only [List.map_toArray,List.map_cons,List.map_nil]);first|done|rfl|(simp only [List.length_drop,List.length_take];rfl)) ?_;(with_reducible refine (impl_InRange.calls a0_0 1 9 true _ A2.out).mono ?_);rintro e w' ⟨rfl,⟨nd,rfl⟩⟩;refine ⟨_,rfl,?_⟩)|(go_at_call 38;(with_reducible refine (impl_InRange.calls a0_1 0 1000000 true _ A4.out).mono ?_);rintro e w' ⟨rfl,⟨nd,rfl⟩⟩)|(go_at_call 68;(with_reducible refine (impl_IsValidKey.calls a0_2 false _ A6.out).mono ?_);rintro e w' ⟨rfl,⟨nd,rfl⟩⟩))
    go_ret
    exact ⟨by first|rfl|(simp [errW_none,errW_some] <;> rfl)|(simp [*,errW_none,errW_some] <;> rfl),by repeat (first|(with_reducible first|exact HB.out|apply below_alloc|apply pw_below_drewN|apply below_drew1|refine below_set ?_ GE276.out)|exact HB.out)⟩
  ·replace c5:=Bool.eq_false_iff.mpr c5;subst c5
   rw [if_neg (show ¬ (false=true) by decide)] at H
   obtain rfl:=Option.some.inj H
   go_enter Tryd.func48,Tryd.ntmps48
   go_wp2_with (first|((with_reducible refine gate_dst (N:=1) rfl ?_);refine box_event ?hg (N:=1) ?hd (cs:=#[.int .i64 a0_0,.int .i64 a0_1,.int .i64 a0_2,.int .i64 a0_3]) (t:=31) ?hr ?_;(case hd => rfl);(case hg => rfl);(case hr => first|(go_simp;done)|(go_simp;rfl));intro gb276 hg w13 hbox hb;have n0_:=bs_ HB hb;have n1_:=Am9_ (hbox);have n2_:=gw_ hg HB;have n3_:=gw_ hg HB;clear HB;have HB:=n0_;have BK276:=n1_;have GW276:=n2_;have GE276:=n3_;clear n0_ n1_ n2_ n3_;clear hb hbox hg;have hcz14_0:w13.cell? ⟨gb276,0,none⟩=some (.int .i64 a0_0):=q_ BK276 0 rfl;have hcz14_1:w13.cell? ⟨gb276,1,none⟩=some (.int .i64 a0_1):=q_ BK276 1 rfl;have hcz14_2:w13.cell? ⟨gb276,2,none⟩=some (.int .i64 a0_2):=q_ BK276 2 rfl;have hcz14_3:w13.cell? ⟨gb276,3,none⟩=some (.int .i64 a0_3):=q_ BK276 3 rfl;have hfz14_0:=blk_frozen BK276.out 0;have hfz14_1:=blk_frozen BK276.out 1;have hfz14_2:=blk_frozen BK276.out 2;have hfz14_3:=blk_frozen BK276.out 3)|((with_reducible refine gate_callee (f:=38) rfl ?_);refine goesL_ (some 5) rfl rfl Tryd.func38 (by kernel_rfl) rfl #[.int .i64 a0_0,.int .i64 1,.int .i64 9] rfl (by (try simp only [List.map_toArray,List.map_cons,List.map_nil]);first|done|rfl|(simp only [List.length_drop,List.length_take];rfl)) ?_;(with_reducible refine (impl_InRange.calls a0_0 1 9 true _ A2.out).mono ?_);rintro e w' ⟨rfl,⟨nd,rfl⟩⟩;refine ⟨_,rfl,?_⟩)|(go_at_call 38;(with_reducible refine (impl_InRange.calls a0_1 0 1000000 false _ A4.out).mono ?_);rintro e w' ⟨rfl,⟨nd,rfl⟩⟩))
   go_ret
   exact ⟨by first|rfl|(simp [errW_none,errW_some] <;> rfl)|(simp [*,errW_none,errW_some] <;> rfl),by repeat (first|(with_reducible first|exact HB.out|apply below_alloc|apply pw_below_drewN|apply below_drew1|refine below_set ?_ GE276.out)|exact HB.out)⟩
 ·replace c3:=Bool.eq_false_iff.mpr c3;subst c3
  rw [if_neg (show ¬ (false=true) by decide)] at H
  obtain rfl:=Option.some.inj H
  go_enter Tryd.func48,Tryd.ntmps48
  go_wp2_with (first|((with_reducible refine gate_dst (N:=1) rfl ?_);refine box_event ?hg (N:=1) ?hd (cs:=#[.int .i64 a0_0,.int .i64 a0_1,.int .i64 a0_2,.int .i64 a0_3]) (t:=31) ?hr ?_;(case hd => rfl);(case hg => rfl);(case hr => first|(go_simp;done)|(go_simp;rfl));intro gb276 hg w15 hbox hb;have n0_:=bs_ HB hb;have n1_:=Am9_ (hbox);have n2_:=gw_ hg HB;have n3_:=gw_ hg HB;clear HB;have HB:=n0_;have BK276:=n1_;have GW276:=n2_;have GE276:=n3_;clear n0_ n1_ n2_ n3_;clear hb hbox hg;have hcz16_0:w15.cell? ⟨gb276,0,none⟩=some (.int .i64 a0_0):=q_ BK276 0 rfl;have hcz16_1:w15.cell? ⟨gb276,1,none⟩=some (.int .i64 a0_1):=q_ BK276 1 rfl;have hcz16_2:w15.cell? ⟨gb276,2,none⟩=some (.int .i64 a0_2):=q_ BK276 2 rfl;have hcz16_3:w15.cell? ⟨gb276,3,none⟩=some (.int .i64 a0_3):=q_ BK276 3 rfl;have hfz16_0:=blk_frozen BK276.out 0;have hfz16_1:=blk_frozen BK276.out 1;have hfz16_2:=blk_frozen BK276.out 2;have hfz16_3:=blk_frozen BK276.out 3)|((with_reducible refine gate_callee (f:=38) rfl ?_);refine goesL_ (some 5) rfl rfl Tryd.func38 (by kernel_rfl) rfl #[.int .i64 a0_0,.int .i64 1,.int .i64 9] rfl (by (try simp only [List.map_toArray,List.map_cons,List.map_nil]);first|done|rfl|(simp only [List.length_drop,List.length_take];rfl)) ?_;(with_reducible refine (impl_InRange.calls a0_0 1 9 false _ A2.out).mono ?_);rintro e w' ⟨rfl,⟨nd,rfl⟩⟩;refine ⟨_,rfl,?_⟩))
  go_ret
  exact ⟨by first|rfl|(simp [errW_none,errW_some] <;> rfl)|(simp [*,errW_none,errW_some] <;> rfl),by repeat (first|(with_reducible first|exact HB.out|apply below_alloc|apply pw_below_drewN|apply below_drew1|refine below_set ?_ GE276.out)|exact HB.out)⟩

/-! ### impl_joined: function 51 -/
def impl_joined.l0:Nat → List Int → List (List Int) → Int → Int → Option (List Int)
|0,_,_,_,_ => none
|k + 1,x5,x11,x12,x13 => if x13 < x12 then (if 0 ≤ x13 then (if x13 < (x11.length:Int) then (if x5.length + (rd_L3 x11 x13).length < 17592186044416 then (impl_joined.l0 k (x5 ++ (rd_L3 x11 x13)) x11 x12 (wrap64 (x13 + 1))) else (none)) else (none)) else (none)) else (some x5)
def impl_joined.f (k:Nat) (l0:List Int) (l1:List (List Int)):Option (List Int):=(some (([]:List Int):List Int)).bind fun y281 => (if y281.length + l0.length < 17592186044416 then (impl_joined.l0 k (y281 ++ l0) l1 (l1.length:Int) 0) else (none))
theorem impl_joined.mono_l:∀ k,(∀ y0 y1 y2 y3,LeO (impl_joined.l0 k y0 y1 y2 y3) (impl_joined.l0 (k + 1) y0 y1 y2 y3))
|0 => fun _ _ _ _ r h => by simp [impl_joined.l0] at h
|k + 1 => by
  have ih0:=impl_joined.mono_l k
  ·intro y0 y1 y2 y3
   unfold impl_joined.l0
   repeat' first
  |(with_reducible exact ih0 _ _ _ _)
  |(with_reducible exact LeO.refl _)
  |(with_reducible exact LeO.none _)
  |(with_reducible refine LeO.ite ?_ ?_)
  |(with_reducible refine LeO.bind ?_ (fun _ => ?_))
  |exact ih0 _ _ _ _
  |exact LeO.none _
  |refine LeO.ite ?_ ?_
  |refine LeO.bind ?_ (fun _ => ?_)
theorem impl_joined.mono:∀ a0 a1 k,LeO (impl_joined.f k a0 a1) (impl_joined.f (k + 1) a0 a1):=by
 intro a0 a1 k;have ih0:=impl_joined.mono_l k
 unfold impl_joined.f
 repeat' first
  |(with_reducible exact ih0 _ _ _ _)
  |(with_reducible exact LeO.refl _)
  |(with_reducible exact LeO.none _)
  |(with_reducible refine LeO.ite ?_ ?_)
  |(with_reducible refine LeO.bind ?_ (fun _ => ?_))
  |exact ih0 _ _ _ _
  |exact LeO.none _
  |refine LeO.ite ?_ ?_
  |refine LeO.bind ?_ (fun _ => ?_)
set_option maxHeartbeats 8000000 in
set_option maxRecDepth 100000 in
theorem impl_joined.calls (k:Nat) (A0:Option Addr) (c0:Nat) (l0:List Int) (A1:Option Addr) (c1:Nat) (l1:List (List Int)) (r:List Int) (w:World) (hr0:Kd.C (Kd.int .i64) w A0 l0.length l0) (hc0:l0.length ≤ c0) (hr1:Kd.C (Kd.slice 3 (Kd.int .i64)) w A1 l1.length l1) (hc1:l1.length ≤ c1) (h:impl_joined.f k l0 l1=some r) :
  Calls Tryd.prog 51 #[.slice A0 l0.length c0,.slice A1 l1.length c1] w fun e w' => ∃ v0_:Value,e=.returned (v0_)∧Kd.R (Kd.int .i64) 3 w' w.heap.size (fun _ => True) v0_ r∧Below w.heap.size w w':=by
 have HR0:=Am9_ hr0;have HC0:=Am9_ hc0;clear hr0 hc0;have HR1:=Am9_ hr1;have HC1:=Am9_ hc1;clear hr1 hc1;have HB:=Am9_ (Below.refl w.heap.size w);have H:=h;unfold impl_joined.f at H;clear h;obtain ⟨y281,hy281⟩:∃ y_:List Int,y_=(([]:List Int)):=⟨_,rfl⟩;replace H:(if y281.length + l0.length < 17592186044416 then (impl_joined.l0 k (y281 ++ l0) l1 (l1.length:Int) 0) else (none))=some r:=by first|(rw [hy281];with_reducible exact H)|(have H2_:=(Option.bind_some _ _).symm.trans H;rw [hy281];with_reducible exact H2_)|(have H2_:=(Option.bind_some _ _).symm.trans H;with_reducible exact H2_)|with_reducible exact H|(rw [hy281];exact H)|exact H
 have Ny281:=Am9_ hy281;clear hy281
 by_cases c3:y281.length + l0.length < 17592186044416
 ·rw [if_pos c3] at H
  have LMc3:=Am9_ c3;clear c3;obtain ⟨y284,hy284⟩:∃ y_:List Int,y_=(y281 ++ l0):=⟨_,rfl⟩;replace H:(impl_joined.l0 k y284 l1 (l1.length:Int) 0)=some r:=by first|(rw [hy284];with_reducible exact H)|(have H2_:=(Option.bind_some _ _).symm.trans H;rw [hy284];with_reducible exact H2_)|(have H2_:=(Option.bind_some _ _).symm.trans H;with_reducible exact H2_)|with_reducible exact H|(rw [hy284];exact H)|exact H
  have Ny284:=Am9_ hy284;clear hy284;have H':=Am9_ H;clear H
  go_enter Tryd.func51,Tryd.ntmps51
  go_wp2_with (first|((with_reducible refine gate_dst (N:=8) rfl ?_);refine Kd.R_lit (Kd.int .i64) _ 3 ?hg (N:=8) ?hd (xs:=([]:List Int)) (inner:=[]) (ok:=fun _ => True) (okp:=fun _ => True) ?hr ?hp (fun _ hk => hk) trivial (Below.refl _ _) (Nat.le_refl _) (by simp) ?_;(case hd => rfl);(case hg => rfl);(case hr => first|(go_simp;done)|(go_simp;rfl));(case hp => exact (Reps.none _ _));intro v282 w4 ho5 hb hg_ hnew_;clear hg_ hnew_;(first|rw [← Ny281.out] at ho5|(simp only [Int.reduceToNat] at ho5;rw [← Ny281.out] at ho5));have n0_:=Am9_ (Kd.R_lower ho5 (below_size (xe_ HB)));have n1_:=bs_ HB hb;clear HB;have HO283:=n0_;have HB:=n1_;clear n0_ n1_;clear hb ho5)|((with_reducible refine gate_builtin (b:=.append) (xs:=#[.tmp 8,.tmp 9]) rfl ?_);at_builtin;refine Kd.R_append_rows (Kd.int .i64) (w0:=w) w.heap.size rfl (.tmp 8) (.tmp 9) 50 3 (.int .i64 0) 8 rfl Tryd.underlying50 info3 rfl (by decide) (by omega) v282 y281 l0 _ _ _ (fun _ => True) (fun _ => False) rfl rfl ?aO ?aR (fun _ _ h => h) (fun _ h => h.elim) ?aF ?aB ?aS ?aL ?_;(case aR => repeat (first|exact (Kd.C_below HR0.out HB.out)|(with_reducible refine Kd.C_alloc ?_ _)|(with_reducible refine Kd.C_drewN ?_ _)|(with_reducible refine Kd.C_drew ?_)));(case aB => exact (xe_ HB));(case aF => exact (fun _ _ => trivial));(case aO => exact (by (with_reducible repeat (first|apply Kd.R_alloc|apply Kd.R_drewN|apply Kd.R_drew));exact HO283.out));(case aS => exact (below_size (xe_ HB)));(case aL => have:=LMc3.out;omega);intro v285 w6 ho hb hg hat;rw [← Ny284.out] at ho;have n0_:=Am9_ (hb);have n1_:=Am9_ (ho);clear HB;clear HO283;have HB:=n0_;have HO286:=n1_;clear n0_ n1_;clear ho hb hg hat))
  go_loopg [5,13] k (fun kq v5 v13 w' => ∃ (x5_1:List Int) (x13_1:Int),v13=.int .i64 x13_1∧Aside0 (impl_joined.l0 kq x5_1 l1 (l1.length:Int) x13_1=some r)∧Aside0 (kq ≤ k)∧Aside0 (Kd.R (Kd.int .i64) 3 w' w.heap.size (fun _ => True) v5 x5_1)∧Aside0 (Below w.heap.size w w'))
  case atStart => exact ⟨(y284),(0),(by first|rfl|(simp;done)|(simp [*];done)),H',⟨Nat.le_refl _⟩,⟨by (with_reducible repeat (first|apply Kd.R_alloc|apply Kd.R_drewN|apply Kd.R_drew));exact HO286.out⟩,⟨by repeat (first|(with_reducible first|exact HB.out|apply below_alloc|apply pw_below_drewN|apply below_drew1)|exact HB.out)⟩⟩
  case round =>
   clear H'
   try clear c1
   try clear p2
   try clear c3
   try clear c5
   obtain ⟨x5_1,x13_1,rfl,HA,HK1,HO_5,HB⟩:=hrel
   cases gk with
  |zero => exact absurd HA.out (by simp [impl_joined.l0])
  |succ k1 =>
    have H:=HA.out;clear HA;simp only [impl_joined.l0] at H
    by_cases c7:x13_1 < (l1.length:Int)
    ·rw [if_pos c7] at H
     have c7b0:decide (x13_1 < (l1.length:Int))=true:=decide_eq_true c7;clear c7
     by_cases c8:0 ≤ x13_1
     ·rw [if_pos c8] at H
      have c8b0:decide (0 ≤ x13_1)=true:=decide_eq_true c8;clear c8
      by_cases c9:x13_1 < (l1.length:Int)
      ·rw [if_pos c9] at H
       have c9b0:decide (x13_1 < (l1.length:Int))=true:=decide_eq_true c9;clear c9
       by_cases c10:x5_1.length + (rd_L3 l1 x13_1).length < 17592186044416
       ·rw [if_pos c10] at H
        have LMc10:=Am9_ c10;clear c10;obtain ⟨y288,hy288⟩:∃ y_:List Int,y_=(x5_1 ++ (rd_L3 l1 x13_1)):=⟨_,rfl⟩;replace H:(impl_joined.l0 k1 y288 l1 (l1.length:Int) (wrap64 (x13_1 + 1)))=some r:=by first|(rw [hy288];with_reducible exact H)|(have H2_:=(Option.bind_some _ _).symm.trans H;rw [hy288];with_reducible exact H2_)|(have H2_:=(Option.bind_some _ _).symm.trans H;with_reducible exact H2_)|with_reducible exact H|(rw [hy288];exact H)|exact H
        have Ny288:=Am9_ hy288;clear hy288;have H':=Am9_ H;clear H;have p287:0 ≤ (x13_1:Int):=of_decide_eq_true (by first|(with_reducible assumption)|assumption);have q287:x13_1 < (l1.length:Int):=of_decide_eq_true (by first|(with_reducible assumption)|assumption);obtain ⟨ad287,A287_0,c287_0,e287,hx287_0,hl287_0,hi287_0⟩:=at_L3 HR1.out x13_1 p287 q287
        cases e287
        replace hx287_0:=(HB.out.cell (World.block_lt_of_cell? w _ hx287_0)).trans hx287_0;have HR287_0:=Am9_ hi287_0;have HC287_0:=Am9_ hl287_0;clear hi287_0 hl287_0;replace p287:=eq_true p287;replace q287:=eq_true q287
        go_wp2_with (first|((with_reducible refine gate_builtin (b:=.append) (xs:=#[.tmp 17,.tmp 18]) rfl ?_);at_builtin;refine Kd.R_append_rows (Kd.int .i64) (w0:=w) w.heap.size rfl (.tmp 17) (.tmp 18) 50 3 (.int .i64 0) 8 rfl Tryd.underlying50 info3 rfl (by decide) (by omega) u5 x5_1 (rd_L3 l1 x13_1) _ _ _ (fun _ => True) (fun _ => False) rfl rfl ?aO ?aR (fun _ _ h => h) (fun _ h => h.elim) ?aF ?aB ?aS ?aL ?_;(case aR => repeat (first|exact (Kd.C_below HR287_0.out HB.out)|(with_reducible refine Kd.C_alloc ?_ _)|(with_reducible refine Kd.C_drewN ?_ _)|(with_reducible refine Kd.C_drew ?_)));(case aB => exact (xe_ HB));(case aF => exact (fun _ _ => trivial));(case aO => exact (by (with_reducible repeat (first|apply Kd.R_alloc|apply Kd.R_drewN|apply Kd.R_drew));exact HO_5.out));(case aS => exact (below_size (xe_ HB)));(case aL => have:=LMc10.out;omega);intro v289 w11 ho hb hg hat;rw [← Ny288.out] at ho;have n0_:=Am9_ (hb);have n1_:=Am9_ (ho);clear HB;clear HO_5;have HB:=n0_;have HO290:=n1_;clear n0_ n1_;clear ho hb hg hat))
        go_roundg k1
        case measure => have:=HK1.out;omega
        case rel => exact ⟨(y288),(wrap64 (x13_1 + 1)),(by first|rfl|(simp;done)|(simp [*];done)),H',⟨by have:=HK1.out;omega⟩,⟨by (with_reducible repeat (first|apply Kd.R_alloc|apply Kd.R_drewN|apply Kd.R_drew));exact HO290.out⟩,⟨by repeat (first|(with_reducible first|exact HB.out|apply below_alloc|apply pw_below_drewN|apply below_drew1)|exact HB.out)⟩⟩
       ·rw [if_neg c10] at H
        exact absurd H (by simp)
      ·rw [if_neg c9] at H
       exact absurd H (by simp)
     ·rw [if_neg c8] at H
      exact absurd H (by simp)
    ·rw [if_neg c7] at H
     have c7b0:decide (x13_1 < (l1.length:Int))=false:=decide_eq_false c7;clear c7;obtain rfl:=Option.some.inj H
     go_wp2
     go_ret
     exact ⟨_,by first|rfl|(simp [errW_none,errW_some] <;> rfl)|(simp [*,errW_none,errW_some] <;> rfl),by (with_reducible repeat (first|apply Kd.R_alloc|apply Kd.R_drewN|apply Kd.R_drew));exact HO_5.out,by repeat (first|(with_reducible first|exact HB.out|apply below_alloc|apply pw_below_drewN|apply below_drew1)|exact HB.out)⟩
 ·rw [if_neg c3] at H
  exact absurd H (by simp)

end Go.Proofs.YtogcoedmagoogaaDoor.PFnExactRelayAssertion
