/- Functions and contracts of a law's callees, written by a program of this session (a changed print): each contract says that the machine's call answers what the plain function says. Conditions: the plain function's own answer. -/
import Derived.Test.YtogcoedmagoogaaGreatDoorZPFnExactCheckAssertionx0
import Derived.Test.YtogcoedmagoogaaGreatDoorZPFnExactCheckAssertionx7
namespace Go.Proofs.YtogcoedmagoogaaGreatDoor.PFnExactCheckAssertion
open Go.RowKit Go.Proofs.YtogcoedmagoogaaGreatDoorW.PrintWords Go.Proofs.YtogcoedmagoogaaGreatDoorW.PrintLast Go.Proofs.YtogcoedmagoogaaGreatDoorW.PrintMore
attribute [local go_sem] max2_int min2_int max_two min_two max_three min_three max_four min_four   -- for this text's walks alone
set_option linter.unusedVariables false
set_option linter.unusedSimpArgs false
abbrev Am8_ {p : Prop} (h : p) : Aside0 p := Aside0.mk h

namespace Y8
class Ex_ (w W:World):Prop where
 k:∀ {g:Nat} {o:Obj},w.heap[g]?=some o → W.heap[g]?=some o
 e:∀ {v:World},Below v.heap.size v w → Below v.heap.size v W
instance (priority:=low) Ex_.rf (w:World):Ex_ w w:=⟨fun h => h,fun h => h⟩
instance Ex_.dn {w W:World} [x:Ex_ w W] (n:Nat):Ex_ w (W.drewN n):=⟨fun h => blk_drewN (x.k h) n,fun h => pw_below_drewN (x.e h) n⟩
instance Ex_.dr {w W:World} [x:Ex_ w W]:Ex_ w W.drew:=⟨fun h => blk_drew (x.k h),fun h => below_drew1 (x.e h)⟩
instance Ex_.al {w W:World} [x:Ex_ w W] (o:Obj):Ex_ w (W.alloc o):=⟨fun h => blk_alloc (x.k h) o,fun h => below_alloc (x.e h) o⟩
theorem xk_ {w W:World} {g:Nat} {o:Obj} (h:Aside0 (w.heap[g]?=some o)) [x:Ex_ w W]:W.heap[g]?=some o:=x.k h.out
theorem ne1_ {w W:World} {g g':Nat} {o:Obj} (hg:g'=W.heap.size) (h:Aside0 (w.heap[g]?=some o)) [x:Ex_ w W]:Aside0 (g ≠ g'):=Am8_ (by rw [hg];exact Nat.ne_of_lt (blk_lt (x.k h.out)))
theorem ne2_ {w W:World} {g g':Nat} {o:Obj} (hg:g'=W.heap.size) (h:Aside0 (w.heap[g]?=some o)) [x:Ex_ w W]:Aside0 (g' ≠ g):=Am8_ (by rw [hg];exact Nat.ne_of_gt (blk_lt (x.k h.out)))
theorem gw_ {v w W:World} {g':Nat} (hg:g'=W.heap.size) (h:Aside0 (Below v.heap.size v w)) [x:Ex_ w W]:Aside0 (v.heap.size ≤ g'):=Am8_ (by rw [hg];exact below_size (x.e h.out))
theorem bb_ {w W W':World} {g:Nat} {o:Obj} (h:Aside0 (w.heap[g]?=some o)) (hb:Below W.heap.size W W') [x:Ex_ w W]:Aside0 (W'.heap[g]?=some o):=Am8_ (blk_below (x.k h.out) hb)
theorem bs_ {v w W W':World} (h:Aside0 (Below v.heap.size v w)) (hb:Below W.heap.size W W') [x:Ex_ w W]:Aside0 (Below v.heap.size v W'):=Am8_ (below_step (x.e h.out) hb)
theorem xe_ {v w W:World} (h:Aside0 (Below v.heap.size v w)) [x:Ex_ w W]:Below v.heap.size v W:=x.e h.out
end Y8
open Y8

namespace Y8
abbrev Sa_ := @List.setIfInBounds_toArray
abbrev Sb_ := @List.set_cons_zero
abbrev Sc_ := @List.set_cons_succ
theorem q_ {w W : World} {g : Nat} {t : TypeId} {cs : Array Value} (h : Aside0 (w.heap[g]? = some (.cells cs t (0, 0)))) (i : Nat) {v : Option Value} (e : cs[i]? = v) [x : Ex_ w W] : W.cell? ⟨g, i, none⟩ = v := (blk_cell (x.k h.out) i).trans e
end Y8
open Y8
/-! ### spec_AssertionMessage: function 23 -/
def spec_AssertionMessage.f (k:Nat) (a0_0:ByteArray) (a0_1:ByteArray) (a0_2:Int) (a0_3:Int) (a0_4:Bool) (a0_5:Int) (a0_6:Int):Option (List Int):=if a0_4=true then ((spec_SiteHash.f k a0_0).bind fun t255 => ((spec_DeriveFromString.f k 211 a0_1).bind fun t256 => (some (([199,t255,t256,a0_2,a0_3,1]:List Int))))) else ((spec_SiteHash.f k a0_0).bind fun t260 => ((spec_DeriveFromString.f k 211 a0_1).bind fun t261 => (some (([199,t260,t261,a0_2,a0_3,0]:List Int)))))
theorem spec_AssertionMessage.mono:∀ a0 a1 a2 a3 a4 a5 a6 k,LeO (spec_AssertionMessage.f k a0 a1 a2 a3 a4 a5 a6) (spec_AssertionMessage.f (k + 1) a0 a1 a2 a3 a4 a5 a6):=by
 intro a0 a1 a2 a3 a4 a5 a6 k
 unfold spec_AssertionMessage.f
 repeat' first
  |(with_reducible exact spec_DeriveFromString.mono _ _ _)
  |(with_reducible exact spec_SiteHash.mono _ _)
  |(with_reducible exact LeO.refl _)
  |(with_reducible exact LeO.none _)
  |(with_reducible refine LeO.ite ?_ ?_)
  |(with_reducible refine LeO.bind ?_ (fun _ => ?_))
  |exact spec_DeriveFromString.mono _ _ _
  |exact spec_SiteHash.mono _ _
  |exact LeO.none _
  |refine LeO.ite ?_ ?_
  |refine LeO.bind ?_ (fun _ => ?_)
def spec_AssertionMessage.T4:Bool × List (List Nat × List Nat):=(true,[([],[]),([0],[0]),([1],[1]),([],[]),([3],[3]),([4,2],[4]),([],[]),([6],[6]),([],[]),([8],[8]),([],[]),([2,5,7,9,10],[2,5,7,9,10]),([11,5,0,1,2,3,4,5,6,7,8,9,10,11],[11])])
def spec_AssertionMessage.B4:List Nat:=[0,1,3,0,8,31,0,64,0,256,0,2047,4095]
theorem spec_AssertionMessage.tab4:rtab .any (opsOf Tryz.f23 4)=spec_AssertionMessage.T4:=by kernel_rfl
theorem spec_AssertionMessage.bits4:waitsOk spec_AssertionMessage.T4.2 spec_AssertionMessage.B4=true:=by kernel_rfl
set_option maxHeartbeats 8000000 in
set_option maxRecDepth 100000 in
theorem spec_AssertionMessage.calls (k:Nat) (a0_0:ByteArray) (a0_1:ByteArray) (a0_2:Int) (a0_3:Int) (a0_4:Bool) (a0_5:Int) (a0_6:Int) (r:List Int) (w:World) (h:spec_AssertionMessage.f k a0_0 a0_1 a0_2 a0_3 a0_4 a0_5 a0_6=some r) :
  Calls Tryz.prog 23 #[.agg #[.string a0_0,.string a0_1,.int .i64 a0_2,.int .i64 a0_3,.bool a0_4,.int .i64 a0_5,.int .i64 a0_6]] w fun e w' => ∃ v0_:Value,e=.returned (v0_)∧Kd.R (Kd.int .i64) 3 w' w.heap.size (fun _ => True) v0_ r∧Below w.heap.size w w':=by
 have hu30:=Tryz.underlying30;have HB:=Am8_ (Below.refl w.heap.size w);have H:=h;unfold spec_AssertionMessage.f at H;clear h
 by_cases c2:a0_4=true
 ·subst c2
  rw [if_pos rfl] at H
  replace H:=Option.bind_eq_some_iff.mp H;obtain ⟨t255,A30,H⟩:=H
  try dsimp only at H
  have A3:=Am8_ A30;clear A30;replace H:=Option.bind_eq_some_iff.mp H;obtain ⟨t256,A40,H⟩:=H
  try dsimp only at H
  have A4:=Am8_ A40;clear A40;obtain ⟨y257,hy257⟩:∃ y_:List Int,y_=(([199,t255,t256,a0_2,a0_3,1]:List Int)):=⟨_,rfl⟩;replace H:(some y257)=some r:=by first|(rw [hy257];with_reducible exact H)|(have H2_:=(Option.bind_some _ _).symm.trans H;rw [hy257];with_reducible exact H2_)|(have H2_:=(Option.bind_some _ _).symm.trans H;with_reducible exact H2_)|with_reducible exact H|(rw [hy257];exact H)|exact H
  have Ny257:=Am8_ hy257;clear hy257;obtain rfl:=Option.some.inj H
  go_enter Tryz.func23,Tryz.ntmps23
  try go_wp2_with (first|((with_reducible refine gate_dst (N:=1) rfl ?_);refine box_event ?hg (N:=1) ?hd (cs:=#[.string a0_0,.string a0_1,.int .i64 a0_2,.int .i64 a0_3,.bool true,.int .i64 a0_5,.int .i64 a0_6]) (t:=30) ?hr ?_;(case hd => rfl);(case hg => rfl);(case hr => first|(go_simp;done)|(go_simp;rfl));intro gb254 hg w5 hbox hb;have n0_:=bs_ HB hb;have n1_:=Am8_ (hbox);have n2_:=gw_ hg HB;have n3_:=gw_ hg HB;clear HB;have HB:=n0_;have BK254:=n1_;have GW254:=n2_;have GE254:=n3_;clear n0_ n1_ n2_ n3_;clear hb hbox hg;have hcz6_0:w5.cell? ⟨gb254,0,none⟩=some (.string a0_0):=q_ BK254 0 rfl;have hcz6_1:w5.cell? ⟨gb254,1,none⟩=some (.string a0_1):=q_ BK254 1 rfl;have hcz6_2:w5.cell? ⟨gb254,2,none⟩=some (.int .i64 a0_2):=q_ BK254 2 rfl;have hcz6_3:w5.cell? ⟨gb254,3,none⟩=some (.int .i64 a0_3):=q_ BK254 3 rfl;have hcz6_4:w5.cell? ⟨gb254,4,none⟩=some (.bool true):=q_ BK254 4 rfl;have hcz6_5:w5.cell? ⟨gb254,5,none⟩=some (.int .i64 a0_5):=q_ BK254 5 rfl;have hcz6_6:w5.cell? ⟨gb254,6,none⟩=some (.int .i64 a0_6):=q_ BK254 6 rfl;have hfz6_0:=blk_frozen BK254.out 0;have hfz6_1:=blk_frozen BK254.out 1;have hfz6_2:=blk_frozen BK254.out 2;have hfz6_3:=blk_frozen BK254.out 3;have hfz6_4:=blk_frozen BK254.out 4;have hfz6_5:=blk_frozen BK254.out 5;have hfz6_6:=blk_frozen BK254.out 6))
  replace BK254:=Am8_ (blk_drew BK254.out);replace HB:=Am8_ (below_drew1 HB.out);refine start_ (n:=13) (S:=fun w' => w'.cell? ⟨gb254,0,none⟩=some (.string a0_0)∧w'.cell? ⟨gb254,1,none⟩=some (.string a0_1)∧w'.cell? ⟨gb254,2,none⟩=some (.int .i64 a0_2)∧w'.cell? ⟨gb254,3,none⟩=some (.int .i64 a0_3)∧w'.cell? ⟨gb254,4,none⟩=some (.bool true)∧w'.cell? ⟨gb254,5,none⟩=some (.int .i64 a0_5)∧w'.cell? ⟨gb254,6,none⟩=some (.int .i64 a0_6)) (ds:=[]) #[false,false,false,false,false,false,false,false,false,false,false,false,false] (by kernel_rfl) rfl rfl ⟨q_ BK254 0 rfl,q_ BK254 1 rfl,q_ BK254 2 rfl,q_ BK254 3 rfl,q_ BK254 4 rfl,q_ BK254 5 rfl,q_ BK254 6 rfl⟩ (fun hHeld => ?_);refine with_tabW spec_AssertionMessage.tab4 spec_AssertionMessage.bits4 (fun HT_ HW_ => ?_);generalize w5.drew=w7 at BK254 HB hHeld ⊢;refine pure_ (i:=0) (N:=some 6) (v:=?_) (a':=?_) #[true,false,false,false,false,false,false,false,false,false,false,false,false] rfl rfl (any_of HT_.out (by kernel_rfl)) (fun _ _ _ h => h) (Or.inl ⟨by rfl,?_⟩) ?_ ?_;rotate_left
  ·intro w'
   go_simp
   with_reducible rfl
  rotate_left
  ·simp only [Act.put,Sa_,Sb_,Sc_,i64_w,i32_w]
   rfl
  refine pure_ (i:=3) (N:=some 9) (v:=?_) (a':=?_) #[true,false,false,true,false,false,false,false,false,false,false,false,false] rfl rfl (any_of HT_.out (by kernel_rfl)) (fun _ _ _ h => h) (Or.inl ⟨by rfl,?_⟩) ?_ ?_;rotate_left
  ·intro w'
   go_simp
   with_reducible rfl
  rotate_left
  ·simp only [Act.put,Sa_,Sb_,Sc_,i64_w,i32_w]
   rfl
  refine pure_ (i:=6) (N:=some 12) (v:=?_) (a':=?_) #[true,false,false,true,false,false,true,false,false,false,false,false,false] rfl rfl (any_of HT_.out (by kernel_rfl)) (fun _ _ _ h => h) (Or.inl ⟨by rfl,?_⟩) ?_ ?_;rotate_left
  ·intro w'
   go_simp
   with_reducible rfl
  rotate_left
  ·simp only [Act.put,Sa_,Sb_,Sc_,i64_w,i32_w]
   rfl
  refine pure_ (i:=8) (N:=some 14) (v:=?_) (a':=?_) #[true,false,false,true,false,false,true,false,true,false,false,false,false] rfl rfl (any_of HT_.out (by kernel_rfl)) (fun _ _ _ h => h) (Or.inl ⟨by rfl,?_⟩) ?_ ?_;rotate_left
  ·intro w'
   go_simp
   with_reducible rfl
  rotate_left
  ·simp only [Act.put,Sa_,Sb_,Sc_,i64_w,i32_w]
   rfl
  refine pure_ (i:=10) (N:=some 16) (v:=?_) (a':=?_) #[true,false,false,true,false,false,true,false,true,false,true,false,false] rfl rfl (any_of HT_.out (by kernel_rfl)) (fun _ _ _ h => h) (Or.inl ⟨by rfl,?_⟩) ?_ ?_;rotate_left
  ·intro w'
   go_simp
   with_reducible rfl
  rotate_left
  ·simp only [Act.put,Sa_,Sb_,Sc_,i64_w,i32_w]
   rfl
  refine take_ (i:=1) (N:=some 7) (v:=?_) (a':=?_) #[true,true,false,true,false,false,true,false,true,false,true,false,false] rfl rfl (take_ofW HT_.out HW_.out (by kernel_rfl)) (fun _ _ _ h => h) (Or.inl ⟨by rfl,?_⟩) hHeld ?_ ?_;rotate_left
  ·rintro w' ⟨s0,s1,s2,s3,s4,s5,s6⟩
   go_simp
   with_reducible rfl
  rotate_left
  ·simp only [Act.put,Sa_,Sb_,Sc_,i64_w,i32_w]
   rfl
  refine take_ (i:=4) (N:=some 10) (v:=?_) (a':=?_) #[true,true,false,true,true,false,true,false,true,false,true,false,false] rfl rfl (take_ofW HT_.out HW_.out (by kernel_rfl)) (fun _ _ _ h => h) (Or.inl ⟨by rfl,?_⟩) hHeld ?_ ?_;rotate_left
  ·rintro w' ⟨s0,s1,s2,s3,s4,s5,s6⟩
   go_simp
   with_reducible rfl
  rotate_left
  ·simp only [Act.put,Sa_,Sb_,Sc_,i64_w,i32_w]
   rfl
  refine take_ (i:=7) (N:=some 13) (v:=?_) (a':=?_) #[true,true,false,true,true,false,true,true,true,false,true,false,false] rfl rfl (take_ofW HT_.out HW_.out (by kernel_rfl)) (fun _ _ _ h => h) (Or.inl ⟨by rfl,?_⟩) hHeld ?_ ?_;rotate_left
  ·rintro w' ⟨s0,s1,s2,s3,s4,s5,s6⟩
   go_simp
   with_reducible rfl
  rotate_left
  ·simp only [Act.put,Sa_,Sb_,Sc_,i64_w,i32_w]
   rfl
  refine take_ (i:=9) (N:=some 15) (v:=?_) (a':=?_) #[true,true,false,true,true,false,true,true,true,true,true,false,false] rfl rfl (take_ofW HT_.out HW_.out (by kernel_rfl)) (fun _ _ _ h => h) (Or.inl ⟨by rfl,?_⟩) hHeld ?_ ?_;rotate_left
  ·rintro w' ⟨s0,s1,s2,s3,s4,s5,s6⟩
   go_simp
   with_reducible rfl
  rotate_left
  ·simp only [Act.put,Sa_,Sb_,Sc_,i64_w,i32_w]
   rfl
  refine one_ (i:=2) (N:=some 8) #[true,true,true,true,true,false,true,true,true,true,true,false,false] rfl rfl (one_of HT_.out (by kernel_rfl)) (by decide) (fun K hK => ?_);refine goes_ Tryz.func37 (by kernel_rfl) rfl #[.string a0_0] (by rfl) rfl rfl (by (try simp only [List.map_toArray,List.map_cons,List.map_nil]);first|done|rfl|(simp only [List.length_drop,List.length_take];rfl)) ?_;with_reducible refine (spec_SiteHash.calls k a0_0 t255 _ A3.out).mono ?_;rintro e w8 ⟨rfl,hb⟩;refine ⟨_,rfl,?_⟩;replace BK254:=bb_ BK254 hb;replace HB:=bs_ HB hb;(try clear hb);(try clear hb2);(try clear hk);(try clear hi);refine hK.out _ _ ⟨q_ BK254 0 rfl,q_ BK254 1 rfl,q_ BK254 2 rfl,q_ BK254 3 rfl,q_ BK254 4 rfl,q_ BK254 5 rfl,q_ BK254 6 rfl⟩ (fun hHeld => ?_);clear hK K;refine norm_ (a':=?_) ?_ ?_;rotate_left
  ·show Act.put _ (some 8) _=_
   simp only [Act.put,Sa_,Sb_,Sc_,i64_w,i32_w]
   rfl
  refine one_ (i:=5) (N:=some 11) #[true,true,true,true,true,true,true,true,true,true,true,false,false] rfl rfl (one_of HT_.out (by kernel_rfl)) (by decide) (fun K hK => ?_);refine goes_ Tryz.func51 (by kernel_rfl) rfl #[.int .i64 211,.string a0_1] (by rfl) rfl rfl (by (try simp only [List.map_toArray,List.map_cons,List.map_nil]);first|done|rfl|(simp only [List.length_drop,List.length_take];rfl)) ?_;with_reducible refine (spec_DeriveFromString.calls k 211 a0_1 t256 _ A4.out).mono ?_;rintro e w9 ⟨rfl,hb⟩;refine ⟨_,rfl,?_⟩;replace BK254:=bb_ BK254 hb;replace HB:=bs_ HB hb;(try clear hb);(try clear hb2);(try clear hk);(try clear hi);refine hK.out _ _ ⟨q_ BK254 0 rfl,q_ BK254 1 rfl,q_ BK254 2 rfl,q_ BK254 3 rfl,q_ BK254 4 rfl,q_ BK254 5 rfl,q_ BK254 6 rfl⟩ (fun hHeld => ?_);clear hK K;refine norm_ (a':=?_) ?_ ?_;rotate_left
  ·show Act.put _ (some 11) _=_
   simp only [Act.put,Sa_,Sb_,Sc_,i64_w,i32_w]
   rfl
  refine one_ (i:=11) (N:=some 17) #[true,true,true,true,true,true,true,true,true,true,true,true,false] rfl rfl (one_of HT_.out (by kernel_rfl)) (by decide) (fun K hK => ?_);refine Kd.R_lit_step (Kd.int .i64) _ 3 ?hg (N:=17) ?hd (xs:=([199,t255,t256,a0_2,a0_3,1]:List Int)) (inner:=[.int .i64 199,.int .i64 t255,.int .i64 t256,.int .i64 a0_2,.int .i64 a0_3,.int .i64 1]) (ok:=fun _ => True) (okp:=fun _ => True) ?hr ?hp (fun _ hk => hk) trivial (Below.refl _ _) (Nat.le_refl _) (by simp) ?_;(case hd => rfl);(case hg => rfl);(case hr => first|(go_simp;done)|(go_simp;rfl));(case hp => exact (Reps.one (show Kd.M (Kd.int .i64) _ _ _ 199 [.int .i64 199] from rfl) (Reps.one (show Kd.M (Kd.int .i64) _ _ _ t255 [.int .i64 t255] from rfl) (Reps.one (show Kd.M (Kd.int .i64) _ _ _ t256 [.int .i64 t256] from rfl) (Reps.one (show Kd.M (Kd.int .i64) _ _ _ a0_2 [.int .i64 a0_2] from rfl) (Reps.one (show Kd.M (Kd.int .i64) _ _ _ a0_3 [.int .i64 a0_3] from rfl) (Reps.one (show Kd.M (Kd.int .i64) _ _ _ 1 [.int .i64 1] from rfl) (Reps.none _ _))))))));intro v258 w10 ho11 hb hg_ hnew_;clear hg_ hnew_
  (first|rw [← Ny257.out] at ho11|(simp only [Int.reduceToNat] at ho11;rw [← Ny257.out] at ho11))
  have HO259:=Am8_ (Kd.R_lower ho11 (below_size (xe_ HB)));replace BK254:=bb_ BK254 hb;replace HB:=bs_ HB hb;clear hb ho11;refine hK.out _ _ ⟨q_ BK254 0 rfl,q_ BK254 1 rfl,q_ BK254 2 rfl,q_ BK254 3 rfl,q_ BK254 4 rfl,q_ BK254 5 rfl,q_ BK254 6 rfl⟩ (fun hHeld => ?_);clear hK K;refine norm_ (a':=?_) ?_ ?_;rotate_left
  ·show Act.put _ (some 17) _=_
   simp only [Act.put,Sa_,Sb_,Sc_,i64_w,i32_w]
   rfl
  refine pure_ (i:=12) (N:=some 2) (v:=?_) (a':=?_) #[true,true,true,true,true,true,true,true,true,true,true,true,true] rfl rfl (any_of HT_.out (by kernel_rfl)) (fun _ _ _ h => h) (Or.inl ⟨by rfl,?_⟩) ?_ ?_;rotate_left
  ·intro w'
   go_simp
   with_reducible rfl
  rotate_left
  ·simp only [Act.put,Sa_,Sb_,Sc_,i64_w,i32_w]
   rfl
  refine done_ (done_of HT_.out (by kernel_rfl)) ?_
  try go_wp2
  go_ret
  exact ⟨_,by first|rfl|(simp [errW_none,errW_some] <;> rfl)|(simp [*,errW_none,errW_some] <;> rfl),by (with_reducible repeat (first|apply Kd.R_alloc|apply Kd.R_drewN|apply Kd.R_drew));exact HO259.out,by repeat (first|(with_reducible first|exact HB.out|apply below_alloc|apply pw_below_drewN|apply below_drew1|refine below_set ?_ GE254.out)|exact HB.out)⟩
 ·replace c2:=Bool.eq_false_iff.mpr c2;subst c2
  rw [if_neg (show ¬ (false=true) by decide)] at H
  replace H:=Option.bind_eq_some_iff.mp H;obtain ⟨t260,A120,H⟩:=H
  try dsimp only at H
  have A12:=Am8_ A120;clear A120;replace H:=Option.bind_eq_some_iff.mp H;obtain ⟨t261,A130,H⟩:=H
  try dsimp only at H
  have A13:=Am8_ A130;clear A130;obtain ⟨y262,hy262⟩:∃ y_:List Int,y_=(([199,t260,t261,a0_2,a0_3,0]:List Int)):=⟨_,rfl⟩;replace H:(some y262)=some r:=by first|(rw [hy262];with_reducible exact H)|(have H2_:=(Option.bind_some _ _).symm.trans H;rw [hy262];with_reducible exact H2_)|(have H2_:=(Option.bind_some _ _).symm.trans H;with_reducible exact H2_)|with_reducible exact H|(rw [hy262];exact H)|exact H
  have Ny262:=Am8_ hy262;clear hy262;obtain rfl:=Option.some.inj H
  go_enter Tryz.func23,Tryz.ntmps23
  try go_wp2_with (first|((with_reducible refine gate_dst (N:=1) rfl ?_);refine box_event ?hg (N:=1) ?hd (cs:=#[.string a0_0,.string a0_1,.int .i64 a0_2,.int .i64 a0_3,.bool false,.int .i64 a0_5,.int .i64 a0_6]) (t:=30) ?hr ?_;(case hd => rfl);(case hg => rfl);(case hr => first|(go_simp;done)|(go_simp;rfl));intro gb254 hg w14 hbox hb;have n0_:=bs_ HB hb;have n1_:=Am8_ (hbox);have n2_:=gw_ hg HB;have n3_:=gw_ hg HB;clear HB;have HB:=n0_;have BK254:=n1_;have GW254:=n2_;have GE254:=n3_;clear n0_ n1_ n2_ n3_;clear hb hbox hg;have hcz15_0:w14.cell? ⟨gb254,0,none⟩=some (.string a0_0):=q_ BK254 0 rfl;have hcz15_1:w14.cell? ⟨gb254,1,none⟩=some (.string a0_1):=q_ BK254 1 rfl;have hcz15_2:w14.cell? ⟨gb254,2,none⟩=some (.int .i64 a0_2):=q_ BK254 2 rfl;have hcz15_3:w14.cell? ⟨gb254,3,none⟩=some (.int .i64 a0_3):=q_ BK254 3 rfl;have hcz15_4:w14.cell? ⟨gb254,4,none⟩=some (.bool false):=q_ BK254 4 rfl;have hcz15_5:w14.cell? ⟨gb254,5,none⟩=some (.int .i64 a0_5):=q_ BK254 5 rfl;have hcz15_6:w14.cell? ⟨gb254,6,none⟩=some (.int .i64 a0_6):=q_ BK254 6 rfl;have hfz15_0:=blk_frozen BK254.out 0;have hfz15_1:=blk_frozen BK254.out 1;have hfz15_2:=blk_frozen BK254.out 2;have hfz15_3:=blk_frozen BK254.out 3;have hfz15_4:=blk_frozen BK254.out 4;have hfz15_5:=blk_frozen BK254.out 5;have hfz15_6:=blk_frozen BK254.out 6))
  replace BK254:=Am8_ (blk_drew BK254.out);replace HB:=Am8_ (below_drew1 HB.out);refine start_ (n:=13) (S:=fun w' => w'.cell? ⟨gb254,0,none⟩=some (.string a0_0)∧w'.cell? ⟨gb254,1,none⟩=some (.string a0_1)∧w'.cell? ⟨gb254,2,none⟩=some (.int .i64 a0_2)∧w'.cell? ⟨gb254,3,none⟩=some (.int .i64 a0_3)∧w'.cell? ⟨gb254,4,none⟩=some (.bool false)∧w'.cell? ⟨gb254,5,none⟩=some (.int .i64 a0_5)∧w'.cell? ⟨gb254,6,none⟩=some (.int .i64 a0_6)) (ds:=[]) #[false,false,false,false,false,false,false,false,false,false,false,false,false] (by kernel_rfl) rfl rfl ⟨q_ BK254 0 rfl,q_ BK254 1 rfl,q_ BK254 2 rfl,q_ BK254 3 rfl,q_ BK254 4 rfl,q_ BK254 5 rfl,q_ BK254 6 rfl⟩ (fun hHeld => ?_);refine with_tabW spec_AssertionMessage.tab4 spec_AssertionMessage.bits4 (fun HT_ HW_ => ?_);generalize w14.drew=w16 at BK254 HB hHeld ⊢;refine pure_ (i:=0) (N:=some 6) (v:=?_) (a':=?_) #[true,false,false,false,false,false,false,false,false,false,false,false,false] rfl rfl (any_of HT_.out (by kernel_rfl)) (fun _ _ _ h => h) (Or.inl ⟨by rfl,?_⟩) ?_ ?_;rotate_left
  ·intro w'
   go_simp
   with_reducible rfl
  rotate_left
  ·simp only [Act.put,Sa_,Sb_,Sc_,i64_w,i32_w]
   rfl
  refine pure_ (i:=3) (N:=some 9) (v:=?_) (a':=?_) #[true,false,false,true,false,false,false,false,false,false,false,false,false] rfl rfl (any_of HT_.out (by kernel_rfl)) (fun _ _ _ h => h) (Or.inl ⟨by rfl,?_⟩) ?_ ?_;rotate_left
  ·intro w'
   go_simp
   with_reducible rfl
  rotate_left
  ·simp only [Act.put,Sa_,Sb_,Sc_,i64_w,i32_w]
   rfl
  refine pure_ (i:=6) (N:=some 12) (v:=?_) (a':=?_) #[true,false,false,true,false,false,true,false,false,false,false,false,false] rfl rfl (any_of HT_.out (by kernel_rfl)) (fun _ _ _ h => h) (Or.inl ⟨by rfl,?_⟩) ?_ ?_;rotate_left
  ·intro w'
   go_simp
   with_reducible rfl
  rotate_left
  ·simp only [Act.put,Sa_,Sb_,Sc_,i64_w,i32_w]
   rfl
  refine pure_ (i:=8) (N:=some 14) (v:=?_) (a':=?_) #[true,false,false,true,false,false,true,false,true,false,false,false,false] rfl rfl (any_of HT_.out (by kernel_rfl)) (fun _ _ _ h => h) (Or.inl ⟨by rfl,?_⟩) ?_ ?_;rotate_left
  ·intro w'
   go_simp
   with_reducible rfl
  rotate_left
  ·simp only [Act.put,Sa_,Sb_,Sc_,i64_w,i32_w]
   rfl
  refine pure_ (i:=10) (N:=some 16) (v:=?_) (a':=?_) #[true,false,false,true,false,false,true,false,true,false,true,false,false] rfl rfl (any_of HT_.out (by kernel_rfl)) (fun _ _ _ h => h) (Or.inl ⟨by rfl,?_⟩) ?_ ?_;rotate_left
  ·intro w'
   go_simp
   with_reducible rfl
  rotate_left
  ·simp only [Act.put,Sa_,Sb_,Sc_,i64_w,i32_w]
   rfl
  refine take_ (i:=1) (N:=some 7) (v:=?_) (a':=?_) #[true,true,false,true,false,false,true,false,true,false,true,false,false] rfl rfl (take_ofW HT_.out HW_.out (by kernel_rfl)) (fun _ _ _ h => h) (Or.inl ⟨by rfl,?_⟩) hHeld ?_ ?_;rotate_left
  ·rintro w' ⟨s0,s1,s2,s3,s4,s5,s6⟩
   go_simp
   with_reducible rfl
  rotate_left
  ·simp only [Act.put,Sa_,Sb_,Sc_,i64_w,i32_w]
   rfl
  refine take_ (i:=4) (N:=some 10) (v:=?_) (a':=?_) #[true,true,false,true,true,false,true,false,true,false,true,false,false] rfl rfl (take_ofW HT_.out HW_.out (by kernel_rfl)) (fun _ _ _ h => h) (Or.inl ⟨by rfl,?_⟩) hHeld ?_ ?_;rotate_left
  ·rintro w' ⟨s0,s1,s2,s3,s4,s5,s6⟩
   go_simp
   with_reducible rfl
  rotate_left
  ·simp only [Act.put,Sa_,Sb_,Sc_,i64_w,i32_w]
   rfl
  refine take_ (i:=7) (N:=some 13) (v:=?_) (a':=?_) #[true,true,false,true,true,false,true,true,true,false,true,false,false] rfl rfl (take_ofW HT_.out HW_.out (by kernel_rfl)) (fun _ _ _ h => h) (Or.inl ⟨by rfl,?_⟩) hHeld ?_ ?_;rotate_left
  ·rintro w' ⟨s0,s1,s2,s3,s4,s5,s6⟩
   go_simp
   with_reducible rfl
  rotate_left
  ·simp only [Act.put,Sa_,Sb_,Sc_,i64_w,i32_w]
   rfl
  refine take_ (i:=9) (N:=some 15) (v:=?_) (a':=?_) #[true,true,false,true,true,false,true,true,true,true,true,false,false] rfl rfl (take_ofW HT_.out HW_.out (by kernel_rfl)) (fun _ _ _ h => h) (Or.inl ⟨by rfl,?_⟩) hHeld ?_ ?_;rotate_left
  ·rintro w' ⟨s0,s1,s2,s3,s4,s5,s6⟩
   go_simp
   with_reducible rfl
  rotate_left
  ·simp only [Act.put,Sa_,Sb_,Sc_,i64_w,i32_w]
   rfl
  refine one_ (i:=2) (N:=some 8) #[true,true,true,true,true,false,true,true,true,true,true,false,false] rfl rfl (one_of HT_.out (by kernel_rfl)) (by decide) (fun K hK => ?_);refine goes_ Tryz.func37 (by kernel_rfl) rfl #[.string a0_0] (by rfl) rfl rfl (by (try simp only [List.map_toArray,List.map_cons,List.map_nil]);first|done|rfl|(simp only [List.length_drop,List.length_take];rfl)) ?_;with_reducible refine (spec_SiteHash.calls k a0_0 t260 _ A12.out).mono ?_;rintro e w17 ⟨rfl,hb⟩;refine ⟨_,rfl,?_⟩;replace BK254:=bb_ BK254 hb;replace HB:=bs_ HB hb;(try clear hb);(try clear hb2);(try clear hk);(try clear hi);refine hK.out _ _ ⟨q_ BK254 0 rfl,q_ BK254 1 rfl,q_ BK254 2 rfl,q_ BK254 3 rfl,q_ BK254 4 rfl,q_ BK254 5 rfl,q_ BK254 6 rfl⟩ (fun hHeld => ?_);clear hK K;refine norm_ (a':=?_) ?_ ?_;rotate_left
  ·show Act.put _ (some 8) _=_
   simp only [Act.put,Sa_,Sb_,Sc_,i64_w,i32_w]
   rfl
  refine one_ (i:=5) (N:=some 11) #[true,true,true,true,true,true,true,true,true,true,true,false,false] rfl rfl (one_of HT_.out (by kernel_rfl)) (by decide) (fun K hK => ?_);refine goes_ Tryz.func51 (by kernel_rfl) rfl #[.int .i64 211,.string a0_1] (by rfl) rfl rfl (by (try simp only [List.map_toArray,List.map_cons,List.map_nil]);first|done|rfl|(simp only [List.length_drop,List.length_take];rfl)) ?_;with_reducible refine (spec_DeriveFromString.calls k 211 a0_1 t261 _ A13.out).mono ?_;rintro e w18 ⟨rfl,hb⟩;refine ⟨_,rfl,?_⟩;replace BK254:=bb_ BK254 hb;replace HB:=bs_ HB hb;(try clear hb);(try clear hb2);(try clear hk);(try clear hi);refine hK.out _ _ ⟨q_ BK254 0 rfl,q_ BK254 1 rfl,q_ BK254 2 rfl,q_ BK254 3 rfl,q_ BK254 4 rfl,q_ BK254 5 rfl,q_ BK254 6 rfl⟩ (fun hHeld => ?_);clear hK K;refine norm_ (a':=?_) ?_ ?_;rotate_left
  ·show Act.put _ (some 11) _=_
   simp only [Act.put,Sa_,Sb_,Sc_,i64_w,i32_w]
   rfl
  refine one_ (i:=11) (N:=some 17) #[true,true,true,true,true,true,true,true,true,true,true,true,false] rfl rfl (one_of HT_.out (by kernel_rfl)) (by decide) (fun K hK => ?_);refine Kd.R_lit_step (Kd.int .i64) _ 3 ?hg (N:=17) ?hd (xs:=([199,t260,t261,a0_2,a0_3,0]:List Int)) (inner:=[.int .i64 199,.int .i64 t260,.int .i64 t261,.int .i64 a0_2,.int .i64 a0_3,.int .i64 0]) (ok:=fun _ => True) (okp:=fun _ => True) ?hr ?hp (fun _ hk => hk) trivial (Below.refl _ _) (Nat.le_refl _) (by simp) ?_;(case hd => rfl);(case hg => rfl);(case hr => first|(go_simp;done)|(go_simp;rfl));(case hp => exact (Reps.one (show Kd.M (Kd.int .i64) _ _ _ 199 [.int .i64 199] from rfl) (Reps.one (show Kd.M (Kd.int .i64) _ _ _ t260 [.int .i64 t260] from rfl) (Reps.one (show Kd.M (Kd.int .i64) _ _ _ t261 [.int .i64 t261] from rfl) (Reps.one (show Kd.M (Kd.int .i64) _ _ _ a0_2 [.int .i64 a0_2] from rfl) (Reps.one (show Kd.M (Kd.int .i64) _ _ _ a0_3 [.int .i64 a0_3] from rfl) (Reps.one (show Kd.M (Kd.int .i64) _ _ _ 0 [.int .i64 0] from rfl) (Reps.none _ _))))))));intro v263 w19 ho20 hb hg_ hnew_;clear hg_ hnew_
  (first|rw [← Ny262.out] at ho20|(simp only [Int.reduceToNat] at ho20;rw [← Ny262.out] at ho20))
  have HO264:=Am8_ (Kd.R_lower ho20 (below_size (xe_ HB)));replace BK254:=bb_ BK254 hb;replace HB:=bs_ HB hb;clear hb ho20;refine hK.out _ _ ⟨q_ BK254 0 rfl,q_ BK254 1 rfl,q_ BK254 2 rfl,q_ BK254 3 rfl,q_ BK254 4 rfl,q_ BK254 5 rfl,q_ BK254 6 rfl⟩ (fun hHeld => ?_);clear hK K;refine norm_ (a':=?_) ?_ ?_;rotate_left
  ·show Act.put _ (some 17) _=_
   simp only [Act.put,Sa_,Sb_,Sc_,i64_w,i32_w]
   rfl
  refine pure_ (i:=12) (N:=some 2) (v:=?_) (a':=?_) #[true,true,true,true,true,true,true,true,true,true,true,true,true] rfl rfl (any_of HT_.out (by kernel_rfl)) (fun _ _ _ h => h) (Or.inl ⟨by rfl,?_⟩) ?_ ?_;rotate_left
  ·intro w'
   go_simp
   with_reducible rfl
  rotate_left
  ·simp only [Act.put,Sa_,Sb_,Sc_,i64_w,i32_w]
   rfl
  refine done_ (done_of HT_.out (by kernel_rfl)) ?_
  try go_wp2
  go_ret
  exact ⟨_,by first|rfl|(simp [errW_none,errW_some] <;> rfl)|(simp [*,errW_none,errW_some] <;> rfl),by (with_reducible repeat (first|apply Kd.R_alloc|apply Kd.R_drewN|apply Kd.R_drew));exact HO264.out,by repeat (first|(with_reducible first|exact HB.out|apply below_alloc|apply pw_below_drewN|apply below_drew1|refine below_set ?_ GE254.out)|exact HB.out)⟩

/-! ### spec_FormatInt: function 92 -/
def spec_FormatInt.l0:Nat → Int → ByteArray → Int → Option (ByteArray)
|0,_,_,_ => none
|k + 1,x0,x3,x4 => if x4=0 then (if x0 < 0 then (if 1 + x3.size ≤ 9223372036854775807 then (some ((⟨#[45]⟩:ByteArray) ++ x3)) else (none)) else (some x3)) else (if (Int.tmod x4 10) < 0 then ((some (([(wrap64 (48 + (wrap64 (-(Int.tmod x4 10))))) % 256]:List Int):List Int)).bind fun y265 => (if (strOfNums y265).size + x3.size ≤ 9223372036854775807 then (spec_FormatInt.l0 k x0 ((strOfNums y265) ++ x3) (wrap64 (Int.tdiv x4 10))) else (none))) else ((some (([(wrap64 (48 + (Int.tmod x4 10))) % 256]:List Int):List Int)).bind fun y268 => (if (strOfNums y268).size + x3.size ≤ 9223372036854775807 then (spec_FormatInt.l0 k x0 ((strOfNums y268) ++ x3) (wrap64 (Int.tdiv x4 10))) else (none))))
def spec_FormatInt.f (k:Nat) (a0:Int):Option (ByteArray):=if a0=0 then (some (⟨#[48]⟩:ByteArray)) else (spec_FormatInt.l0 k a0 (⟨#[]⟩:ByteArray) a0)
theorem spec_FormatInt.mono_l:∀ k,(∀ y0 y1 y2,LeO (spec_FormatInt.l0 k y0 y1 y2) (spec_FormatInt.l0 (k + 1) y0 y1 y2))
|0 => fun _ _ _ r h => by simp [spec_FormatInt.l0] at h
|k + 1 => by
  have ih0:=spec_FormatInt.mono_l k
  ·intro y0 y1 y2
   unfold spec_FormatInt.l0
   repeat' first
  |(with_reducible exact ih0 _ _ _)
  |(with_reducible exact LeO.refl _)
  |(with_reducible exact LeO.none _)
  |(with_reducible refine LeO.ite ?_ ?_)
  |(with_reducible refine LeO.bind ?_ (fun _ => ?_))
  |exact ih0 _ _ _
  |exact LeO.none _
  |refine LeO.ite ?_ ?_
  |refine LeO.bind ?_ (fun _ => ?_)
theorem spec_FormatInt.mono:∀ a0 k,LeO (spec_FormatInt.f k a0) (spec_FormatInt.f (k + 1) a0):=by
 intro a0 k;have ih0:=spec_FormatInt.mono_l k
 unfold spec_FormatInt.f
 repeat' first
  |(with_reducible exact ih0 _ _ _)
  |(with_reducible exact LeO.refl _)
  |(with_reducible exact LeO.none _)
  |(with_reducible refine LeO.ite ?_ ?_)
  |(with_reducible refine LeO.bind ?_ (fun _ => ?_))
  |exact ih0 _ _ _
  |exact LeO.none _
  |refine LeO.ite ?_ ?_
  |refine LeO.bind ?_ (fun _ => ?_)
set_option maxHeartbeats 8000000 in
set_option maxRecDepth 100000 in
theorem spec_FormatInt.calls (k:Nat) (a0:Int) (r:ByteArray) (w:World) (h:spec_FormatInt.f k a0=some r) :
  Calls Tryz.prog 92 #[.int .i64 a0] w fun e w' => e=.returned (.string r)∧Below w.heap.size w w':=by
 have HB:=Am8_ (Below.refl w.heap.size w);have H:=h;unfold spec_FormatInt.f at H;clear h
 by_cases c2:a0=0
 ·rw [if_pos c2] at H
  have c2b0:(a0 == 0)=true:=beq_iff_eq.mpr c2;have c2b1:(a0 != 0)=false:=bne_eq_false_iff_eq.mpr c2;clear c2;obtain rfl:=Option.some.inj H
  go_enter Tryz.func92,Tryz.ntmps92
  go_wp2
  go_ret
  exact ⟨by first|rfl|(simp [errW_none,errW_some] <;> rfl)|(simp [*,errW_none,errW_some] <;> rfl),by repeat (first|(with_reducible first|exact HB.out|apply below_alloc|apply pw_below_drewN|apply below_drew1)|exact HB.out)⟩
 ·rw [if_neg c2] at H
  have c2b0:(a0 == 0)=false:=beq_eq_false_iff_ne.mpr c2;have c2b1:(a0 != 0)=true:=bne_iff_ne.mpr c2;have H':=Am8_ H;clear H
  go_enter Tryz.func92,Tryz.ntmps92
  go_wp2
  go_loopg [3,4] k (fun kq v3 v4 w' => ∃ (x3_1:ByteArray) (x4_1:Int),v3=.string x3_1∧v4=.int .i64 x4_1∧Aside0 (spec_FormatInt.l0 kq a0 x3_1 x4_1=some r)∧Aside0 (kq ≤ k)∧Aside0 (Below w.heap.size w w'))
  case atStart => exact ⟨((⟨#[]⟩:ByteArray)),(a0),(by first|rfl|(simp;done)|(simp [*];done)),(by first|rfl|(simp;done)|(simp [*];done)),H',⟨Nat.le_refl _⟩,⟨by repeat (first|(with_reducible first|exact HB.out|apply below_alloc|apply pw_below_drewN|apply below_drew1)|exact HB.out)⟩⟩
  case round =>
   clear H'
   try clear c2
   try clear c2b0
   try clear c2b1
   try clear p2
   obtain ⟨x3_1,x4_1,rfl,rfl,HA,HK1,HB⟩:=hrel
   cases gk with
  |zero => exact absurd HA.out (by simp [spec_FormatInt.l0])
  |succ k1 =>
    have H:=HA.out;clear HA;simp only [spec_FormatInt.l0] at H
    by_cases c3:x4_1=0
    ·rw [if_pos c3] at H
     have c3b0:(x4_1 == 0)=true:=beq_iff_eq.mpr c3;have c3b1:(x4_1 != 0)=false:=bne_eq_false_iff_eq.mpr c3;clear c3
     by_cases c4:a0 < 0
     ·rw [if_pos c4] at H
      have c4b0:decide (a0 < 0)=true:=decide_eq_true c4;clear c4
      by_cases c5:1 + x3_1.size ≤ 9223372036854775807
      ·rw [if_pos c5] at H
       have c5b0:=eq_true c5;have c5b1:decide (1 + x3_1.size ≤ 9223372036854775807)=true:=decide_eq_true c5
       try have c5b2:(9223372036854775807 < 1 + x3_1.size)=False:=eq_false (Nat.not_lt.2 c5)
       obtain rfl:=Option.some.inj H
       go_wp2
       go_ret
       exact ⟨by first|rfl|(simp [errW_none,errW_some] <;> rfl)|(simp [*,errW_none,errW_some] <;> rfl),by repeat (first|(with_reducible first|exact HB.out|apply below_alloc|apply pw_below_drewN|apply below_drew1)|exact HB.out)⟩
      ·rw [if_neg c5] at H
       exact absurd H (by simp)
     ·rw [if_neg c4] at H
      have c4b0:decide (a0 < 0)=false:=decide_eq_false c4;clear c4;obtain rfl:=Option.some.inj H
      go_wp2
      go_ret
      exact ⟨by first|rfl|(simp [errW_none,errW_some] <;> rfl)|(simp [*,errW_none,errW_some] <;> rfl),by repeat (first|(with_reducible first|exact HB.out|apply below_alloc|apply pw_below_drewN|apply below_drew1)|exact HB.out)⟩
    ·rw [if_neg c3] at H
     have c3b0:(x4_1 == 0)=false:=beq_eq_false_iff_ne.mpr c3;have c3b1:(x4_1 != 0)=true:=bne_iff_ne.mpr c3
     by_cases c6:(Int.tmod x4_1 10) < 0
     ·rw [if_pos c6] at H
      have c6b0:decide ((Int.tmod x4_1 10) < 0)=true:=decide_eq_true c6;clear c6;obtain ⟨y265,hy265⟩:∃ y_:List Int,y_=(([(wrap64 (48 + (wrap64 (-(Int.tmod x4_1 10))))) % 256]:List Int)):=⟨_,rfl⟩;replace H:(if (strOfNums y265).size + x3_1.size ≤ 9223372036854775807 then (spec_FormatInt.l0 k1 a0 ((strOfNums y265) ++ x3_1) (wrap64 (Int.tdiv x4_1 10))) else (none))=some r:=by first|(rw [hy265];with_reducible exact H)|(have H2_:=(Option.bind_some _ _).symm.trans H;rw [hy265];with_reducible exact H2_)|(have H2_:=(Option.bind_some _ _).symm.trans H;with_reducible exact H2_)|with_reducible exact H|(rw [hy265];exact H)|exact H
      have Ny265:=Am8_ hy265;clear hy265
      by_cases c7:(strOfNums y265).size + x3_1.size ≤ 9223372036854775807
      ·rw [if_pos c7] at H
       have c7b0:=eq_true c7;have c7b1:decide ((strOfNums y265).size + x3_1.size ≤ 9223372036854775807)=true:=decide_eq_true c7
       try have c7b2:(9223372036854775807 < (strOfNums y265).size + x3_1.size)=False:=eq_false (Nat.not_lt.2 c7)
       have H':=Am8_ H;clear H
       go_wp2_with (first|((with_reducible refine gate_dst (N:=22) rfl ?_);refine Kd.R_lit (Kd.int .u8) _ 5 ?hg (N:=22) ?hd (xs:=([(wrap64 (48 + (wrap64 (-(Int.tmod x4_1 10))))) % 256]:List Int)) (inner:=[.int .u8 ((wrap64 (48 + (wrap64 (-(Int.tmod x4_1 10))))) % 256)]) (ok:=fun _ => True) (okp:=fun _ => True) ?hr ?hp (fun _ hk => hk) trivial (Below.refl _ _) (Nat.le_refl _) (by simp) ?_;(case hd => rfl);(case hg => rfl);(case hr => first|(go_simp;done)|(go_simp;rfl));(case hp => exact (Reps.one (show Kd.M (Kd.int .u8) _ _ _ ((wrap64 (48 + (wrap64 (-(Int.tmod x4_1 10))))) % 256) [.int .u8 ((wrap64 (48 + (wrap64 (-(Int.tmod x4_1 10))))) % 256)] from rfl) (Reps.none _ _)));intro v266 w8 ho9 hb hg_ hnew_;clear hg_ hnew_;(first|rw [← Ny265.out] at ho9|(simp only [Int.reduceToNat] at ho9;rw [← Ny265.out] at ho9));have n0_:=Am8_ (Kd.R_lower ho9 (below_size (xe_ HB)));have n1_:=bs_ HB hb;clear HB;have HO267:=n0_;have HB:=n1_;clear n0_ n1_;clear hb ho9;have hcv10:=own_string (P:=Tryz.prog) Tryz.underlying22 Tryz.underlying5 Tryz.underlying9 (Kd.own_of_R HO267.out)))
       go_roundg k1
       case measure => have:=HK1.out;omega
       case rel => exact ⟨((strOfNums y265) ++ x3_1),(wrap64 (Int.tdiv x4_1 10)),(by first|rfl|(simp;done)|(simp [*];done)),(by first|rfl|(simp;done)|(simp [*];done)),H',⟨by have:=HK1.out;omega⟩,⟨by repeat (first|(with_reducible first|exact HB.out|apply below_alloc|apply pw_below_drewN|apply below_drew1)|exact HB.out)⟩⟩
      ·rw [if_neg c7] at H
       exact absurd H (by simp)
     ·rw [if_neg c6] at H
      have c6b0:decide ((Int.tmod x4_1 10) < 0)=false:=decide_eq_false c6;clear c6;obtain ⟨y268,hy268⟩:∃ y_:List Int,y_=(([(wrap64 (48 + (Int.tmod x4_1 10))) % 256]:List Int)):=⟨_,rfl⟩;replace H:(if (strOfNums y268).size + x3_1.size ≤ 9223372036854775807 then (spec_FormatInt.l0 k1 a0 ((strOfNums y268) ++ x3_1) (wrap64 (Int.tdiv x4_1 10))) else (none))=some r:=by first|(rw [hy268];with_reducible exact H)|(have H2_:=(Option.bind_some _ _).symm.trans H;rw [hy268];with_reducible exact H2_)|(have H2_:=(Option.bind_some _ _).symm.trans H;with_reducible exact H2_)|with_reducible exact H|(rw [hy268];exact H)|exact H
      have Ny268:=Am8_ hy268;clear hy268
      by_cases c11:(strOfNums y268).size + x3_1.size ≤ 9223372036854775807
      ·rw [if_pos c11] at H
       have c11b0:=eq_true c11;have c11b1:decide ((strOfNums y268).size + x3_1.size ≤ 9223372036854775807)=true:=decide_eq_true c11
       try have c11b2:(9223372036854775807 < (strOfNums y268).size + x3_1.size)=False:=eq_false (Nat.not_lt.2 c11)
       have H':=Am8_ H;clear H
       go_wp2_with (first|((with_reducible refine gate_dst (N:=22) rfl ?_);refine Kd.R_lit (Kd.int .u8) _ 5 ?hg (N:=22) ?hd (xs:=([(wrap64 (48 + (Int.tmod x4_1 10))) % 256]:List Int)) (inner:=[.int .u8 ((wrap64 (48 + (Int.tmod x4_1 10))) % 256)]) (ok:=fun _ => True) (okp:=fun _ => True) ?hr ?hp (fun _ hk => hk) trivial (Below.refl _ _) (Nat.le_refl _) (by simp) ?_;(case hd => rfl);(case hg => rfl);(case hr => first|(go_simp;done)|(go_simp;rfl));(case hp => exact (Reps.one (show Kd.M (Kd.int .u8) _ _ _ ((wrap64 (48 + (Int.tmod x4_1 10))) % 256) [.int .u8 ((wrap64 (48 + (Int.tmod x4_1 10))) % 256)] from rfl) (Reps.none _ _)));intro v269 w12 ho13 hb hg_ hnew_;clear hg_ hnew_;(first|rw [← Ny268.out] at ho13|(simp only [Int.reduceToNat] at ho13;rw [← Ny268.out] at ho13));have n0_:=Am8_ (Kd.R_lower ho13 (below_size (xe_ HB)));have n1_:=bs_ HB hb;clear HB;have HO270:=n0_;have HB:=n1_;clear n0_ n1_;clear hb ho13;have hcv14:=own_string (P:=Tryz.prog) Tryz.underlying22 Tryz.underlying5 Tryz.underlying9 (Kd.own_of_R HO270.out)))
       go_roundg k1
       case measure => have:=HK1.out;omega
       case rel => exact ⟨((strOfNums y268) ++ x3_1),(wrap64 (Int.tdiv x4_1 10)),(by first|rfl|(simp;done)|(simp [*];done)),(by first|rfl|(simp;done)|(simp [*];done)),H',⟨by have:=HK1.out;omega⟩,⟨by repeat (first|(with_reducible first|exact HB.out|apply below_alloc|apply pw_below_drewN|apply below_drew1)|exact HB.out)⟩⟩
      ·rw [if_neg c11] at H
       exact absurd H (by simp)

end Go.Proofs.YtogcoedmagoogaaGreatDoor.PFnExactCheckAssertion
