/- Functions and contracts of a law's callees, written by a program of this session (a changed print): each contract says that the machine's call answers what the plain function says. Conditions: the plain function's own answer. -/
import Derived.Test.YtogcoedmagoogaaGreatDoorZPFnAssertionsx0
import Derived.Test.YtogcoedmagoogaaGreatDoorZPFnAssertionsx1
namespace Go.Proofs.YtogcoedmagoogaaGreatDoor.PFnAssertions
open Go.RowKit Go.Proofs.YtogcoedmagoogaaGreatDoorW.PrintWords Go.Proofs.YtogcoedmagoogaaGreatDoorW.PrintLast Go.Proofs.YtogcoedmagoogaaGreatDoorW.PrintMore
attribute [local go_sem] max2_int min2_int max_two min_two max_three min_three max_four min_four   -- for this text's walks alone
set_option linter.unusedVariables false
set_option linter.unusedSimpArgs false
abbrev Am2_ {p : Prop} (h : p) : Aside0 p := Aside0.mk h

namespace Y2
class Ex_ (w W:World):Prop where
 k:∀ {g:Nat} {o:Obj},w.heap[g]?=some o → W.heap[g]?=some o
 e:∀ {v:World},Below v.heap.size v w → Below v.heap.size v W
instance (priority:=low) Ex_.rf (w:World):Ex_ w w:=⟨fun h => h,fun h => h⟩
instance Ex_.dn {w W:World} [x:Ex_ w W] (n:Nat):Ex_ w (W.drewN n):=⟨fun h => blk_drewN (x.k h) n,fun h => pw_below_drewN (x.e h) n⟩
instance Ex_.dr {w W:World} [x:Ex_ w W]:Ex_ w W.drew:=⟨fun h => blk_drew (x.k h),fun h => below_drew1 (x.e h)⟩
instance Ex_.al {w W:World} [x:Ex_ w W] (o:Obj):Ex_ w (W.alloc o):=⟨fun h => blk_alloc (x.k h) o,fun h => below_alloc (x.e h) o⟩
theorem xk_ {w W:World} {g:Nat} {o:Obj} (h:Aside0 (w.heap[g]?=some o)) [x:Ex_ w W]:W.heap[g]?=some o:=x.k h.out
theorem ne1_ {w W:World} {g g':Nat} {o:Obj} (hg:g'=W.heap.size) (h:Aside0 (w.heap[g]?=some o)) [x:Ex_ w W]:Aside0 (g ≠ g'):=Am2_ (by rw [hg];exact Nat.ne_of_lt (blk_lt (x.k h.out)))
theorem ne2_ {w W:World} {g g':Nat} {o:Obj} (hg:g'=W.heap.size) (h:Aside0 (w.heap[g]?=some o)) [x:Ex_ w W]:Aside0 (g' ≠ g):=Am2_ (by rw [hg];exact Nat.ne_of_gt (blk_lt (x.k h.out)))
theorem gw_ {v w W:World} {g':Nat} (hg:g'=W.heap.size) (h:Aside0 (Below v.heap.size v w)) [x:Ex_ w W]:Aside0 (v.heap.size ≤ g'):=Am2_ (by rw [hg];exact below_size (x.e h.out))
theorem bb_ {w W W':World} {g:Nat} {o:Obj} (h:Aside0 (w.heap[g]?=some o)) (hb:Below W.heap.size W W') [x:Ex_ w W]:Aside0 (W'.heap[g]?=some o):=Am2_ (blk_below (x.k h.out) hb)
theorem bs_ {v w W W':World} (h:Aside0 (Below v.heap.size v w)) (hb:Below W.heap.size W W') [x:Ex_ w W]:Aside0 (Below v.heap.size v W'):=Am2_ (below_step (x.e h.out) hb)
theorem xe_ {v w W:World} (h:Aside0 (Below v.heap.size v w)) [x:Ex_ w W]:Below v.heap.size v W:=x.e h.out
end Y2
open Y2

namespace Y2
abbrev Sa_ := @List.setIfInBounds_toArray
abbrev Sb_ := @List.set_cons_zero
abbrev Sc_ := @List.set_cons_succ
theorem q_ {w W : World} {g : Nat} {t : TypeId} {cs : Array Value} (h : Aside0 (w.heap[g]? = some (.cells cs t (0, 0)))) (i : Nat) {v : Option Value} (e : cs[i]? = v) [x : Ex_ w W] : W.cell? ⟨g, i, none⟩ = v := (blk_cell (x.k h.out) i).trans e
end Y2
open Y2
/-! ### impl_AssertionMessage: function 22 -/
def impl_AssertionMessage.f (k:Nat) (a0_0:ByteArray) (a0_1:ByteArray) (a0_2:Int) (a0_3:Int) (a0_4:Bool) (a0_5:Int) (a0_6:Int):Option (List Int):=(impl_SiteHash.f k a0_0).bind fun t136 => ((impl_DeriveFromString.f k 211 a0_1).bind fun t137 => ((impl_bit.f a0_4).bind fun t138 => (some (([199,t136,t137,a0_2,a0_3,t138]:List Int)))))
theorem impl_AssertionMessage.mono:∀ a0 a1 a2 a3 a4 a5 a6 k,LeO (impl_AssertionMessage.f k a0 a1 a2 a3 a4 a5 a6) (impl_AssertionMessage.f (k + 1) a0 a1 a2 a3 a4 a5 a6):=by
 intro a0 a1 a2 a3 a4 a5 a6 k
 unfold impl_AssertionMessage.f
 repeat' first
  |(with_reducible exact impl_DeriveFromString.mono _ _ _)
  |(with_reducible exact impl_SiteHash.mono _ _)
  |(with_reducible exact LeO.refl _)
  |(with_reducible exact LeO.none _)
  |(with_reducible refine LeO.ite ?_ ?_)
  |(with_reducible refine LeO.bind ?_ (fun _ => ?_))
  |exact impl_DeriveFromString.mono _ _ _
  |exact impl_SiteHash.mono _ _
  |exact LeO.none _
  |refine LeO.ite ?_ ?_
  |refine LeO.bind ?_ (fun _ => ?_)
def impl_AssertionMessage.T1:Bool × List (List Nat × List Nat):=(true,[([],[]),([0],[0]),([1],[1]),([],[]),([3],[3]),([4,2],[4]),([],[]),([6],[6]),([],[]),([8],[8]),([],[]),([10],[10]),([11,5],[11]),([2,5,7,9,12],[2,5,7,9,12]),([13,12,0,1,2,3,4,5,6,7,8,9,10,11,12,13],[13])])
def impl_AssertionMessage.B1:List Nat:=[0,1,3,0,8,31,0,64,0,256,0,1024,3135,8191,16383]
theorem impl_AssertionMessage.tab1:rtab .any (opsOf Tryz.f22 1)=impl_AssertionMessage.T1:=by kernel_rfl
theorem impl_AssertionMessage.bits1:waitsOk impl_AssertionMessage.T1.2 impl_AssertionMessage.B1=true:=by kernel_rfl
set_option maxHeartbeats 8000000 in
set_option maxRecDepth 100000 in
theorem impl_AssertionMessage.calls (k:Nat) (a0_0:ByteArray) (a0_1:ByteArray) (a0_2:Int) (a0_3:Int) (a0_4:Bool) (a0_5:Int) (a0_6:Int) (r:List Int) (w:World) (h:impl_AssertionMessage.f k a0_0 a0_1 a0_2 a0_3 a0_4 a0_5 a0_6=some r) :
  Calls Tryz.prog 22 #[.agg #[.string a0_0,.string a0_1,.int .i64 a0_2,.int .i64 a0_3,.bool a0_4,.int .i64 a0_5,.int .i64 a0_6]] w fun e w' => ∃ v0_:Value,e=.returned (v0_)∧Kd.R (Kd.int .i64) 3 w' w.heap.size (fun _ => True) v0_ r∧Below w.heap.size w w':=by
 have hu30:=Tryz.underlying30;have HB:=Am2_ (Below.refl w.heap.size w);have H:=h;unfold impl_AssertionMessage.f at H;clear h;replace H:=Option.bind_eq_some_iff.mp H;obtain ⟨t136,A20,H⟩:=H
 try dsimp only at H
 have A2:=Am2_ A20;clear A20;replace H:=Option.bind_eq_some_iff.mp H;obtain ⟨t137,A30,H⟩:=H
 try dsimp only at H
 have A3:=Am2_ A30;clear A30;replace H:=Option.bind_eq_some_iff.mp H;obtain ⟨t138,A40,H⟩:=H
 try dsimp only at H
 have A4:=Am2_ A40;clear A40;obtain ⟨y139,hy139⟩:∃ y_:List Int,y_=(([199,t136,t137,a0_2,a0_3,t138]:List Int)):=⟨_,rfl⟩;replace H:(some y139)=some r:=by first|(rw [hy139];with_reducible exact H)|(have H2_:=(Option.bind_some _ _).symm.trans H;rw [hy139];with_reducible exact H2_)|(have H2_:=(Option.bind_some _ _).symm.trans H;with_reducible exact H2_)|with_reducible exact H|(rw [hy139];exact H)|exact H
 have Ny139:=Am2_ hy139;clear hy139;obtain rfl:=Option.some.inj H
 go_enter Tryz.func22,Tryz.ntmps22
 try go_wp2_with (first|((with_reducible refine gate_dst (N:=1) rfl ?_);refine box_event ?hg (N:=1) ?hd (cs:=#[.string a0_0,.string a0_1,.int .i64 a0_2,.int .i64 a0_3,.bool a0_4,.int .i64 a0_5,.int .i64 a0_6]) (t:=30) ?hr ?_;(case hd => rfl);(case hg => rfl);(case hr => first|(go_simp;done)|(go_simp;rfl));intro gb135 hg w5 hbox hb;have n0_:=bs_ HB hb;have n1_:=Am2_ (hbox);have n2_:=gw_ hg HB;have n3_:=gw_ hg HB;clear HB;have HB:=n0_;have BK135:=n1_;have GW135:=n2_;have GE135:=n3_;clear n0_ n1_ n2_ n3_;clear hb hbox hg))
 replace BK135:=Am2_ (blk_drew BK135.out);replace HB:=Am2_ (below_drew1 HB.out);refine start_ (n:=15) (S:=fun w' => w'.cell? ⟨gb135,0,none⟩=some (.string a0_0)∧w'.cell? ⟨gb135,1,none⟩=some (.string a0_1)∧w'.cell? ⟨gb135,2,none⟩=some (.int .i64 a0_2)∧w'.cell? ⟨gb135,3,none⟩=some (.int .i64 a0_3)∧w'.cell? ⟨gb135,4,none⟩=some (.bool a0_4)∧w'.cell? ⟨gb135,5,none⟩=some (.int .i64 a0_5)∧w'.cell? ⟨gb135,6,none⟩=some (.int .i64 a0_6)) (ds:=[]) #[false,false,false,false,false,false,false,false,false,false,false,false,false,false,false] (by kernel_rfl) rfl rfl ⟨q_ BK135 0 rfl,q_ BK135 1 rfl,q_ BK135 2 rfl,q_ BK135 3 rfl,q_ BK135 4 rfl,q_ BK135 5 rfl,q_ BK135 6 rfl⟩ (fun hHeld => ?_);refine with_tabW impl_AssertionMessage.tab1 impl_AssertionMessage.bits1 (fun HT_ HW_ => ?_);generalize w5.drew=w6 at BK135 HB hHeld ⊢;refine pure_ (i:=0) (N:=some 3) (v:=?_) (a':=?_) #[true,false,false,false,false,false,false,false,false,false,false,false,false,false,false] rfl rfl (any_of HT_.out (by kernel_rfl)) (fun _ _ _ h => h) (Or.inl ⟨by rfl,?_⟩) ?_ ?_;rotate_left
 ·intro w'
  go_simp
  with_reducible rfl
 rotate_left
 ·simp only [Act.put,Sa_,Sb_,Sc_,i64_w,i32_w]
  rfl
 refine pure_ (i:=3) (N:=some 6) (v:=?_) (a':=?_) #[true,false,false,true,false,false,false,false,false,false,false,false,false,false,false] rfl rfl (any_of HT_.out (by kernel_rfl)) (fun _ _ _ h => h) (Or.inl ⟨by rfl,?_⟩) ?_ ?_;rotate_left
 ·intro w'
  go_simp
  with_reducible rfl
 rotate_left
 ·simp only [Act.put,Sa_,Sb_,Sc_,i64_w,i32_w]
  rfl
 refine pure_ (i:=6) (N:=some 9) (v:=?_) (a':=?_) #[true,false,false,true,false,false,true,false,false,false,false,false,false,false,false] rfl rfl (any_of HT_.out (by kernel_rfl)) (fun _ _ _ h => h) (Or.inl ⟨by rfl,?_⟩) ?_ ?_;rotate_left
 ·intro w'
  go_simp
  with_reducible rfl
 rotate_left
 ·simp only [Act.put,Sa_,Sb_,Sc_,i64_w,i32_w]
  rfl
 refine pure_ (i:=8) (N:=some 11) (v:=?_) (a':=?_) #[true,false,false,true,false,false,true,false,true,false,false,false,false,false,false] rfl rfl (any_of HT_.out (by kernel_rfl)) (fun _ _ _ h => h) (Or.inl ⟨by rfl,?_⟩) ?_ ?_;rotate_left
 ·intro w'
  go_simp
  with_reducible rfl
 rotate_left
 ·simp only [Act.put,Sa_,Sb_,Sc_,i64_w,i32_w]
  rfl
 refine pure_ (i:=10) (N:=some 13) (v:=?_) (a':=?_) #[true,false,false,true,false,false,true,false,true,false,true,false,false,false,false] rfl rfl (any_of HT_.out (by kernel_rfl)) (fun _ _ _ h => h) (Or.inl ⟨by rfl,?_⟩) ?_ ?_;rotate_left
 ·intro w'
  go_simp
  with_reducible rfl
 rotate_left
 ·simp only [Act.put,Sa_,Sb_,Sc_,i64_w,i32_w]
  rfl
 refine take_ (i:=1) (N:=some 4) (v:=?_) (a':=?_) #[true,true,false,true,false,false,true,false,true,false,true,false,false,false,false] rfl rfl (take_ofW HT_.out HW_.out (by kernel_rfl)) (fun _ _ _ h => h) (Or.inl ⟨by rfl,?_⟩) hHeld ?_ ?_;rotate_left
 ·rintro w' ⟨s0,s1,s2,s3,s4,s5,s6⟩
  go_simp
  with_reducible rfl
 rotate_left
 ·simp only [Act.put,Sa_,Sb_,Sc_,i64_w,i32_w]
  rfl
 refine take_ (i:=4) (N:=some 7) (v:=?_) (a':=?_) #[true,true,false,true,true,false,true,false,true,false,true,false,false,false,false] rfl rfl (take_ofW HT_.out HW_.out (by kernel_rfl)) (fun _ _ _ h => h) (Or.inl ⟨by rfl,?_⟩) hHeld ?_ ?_;rotate_left
 ·rintro w' ⟨s0,s1,s2,s3,s4,s5,s6⟩
  go_simp
  with_reducible rfl
 rotate_left
 ·simp only [Act.put,Sa_,Sb_,Sc_,i64_w,i32_w]
  rfl
 refine take_ (i:=7) (N:=some 10) (v:=?_) (a':=?_) #[true,true,false,true,true,false,true,true,true,false,true,false,false,false,false] rfl rfl (take_ofW HT_.out HW_.out (by kernel_rfl)) (fun _ _ _ h => h) (Or.inl ⟨by rfl,?_⟩) hHeld ?_ ?_;rotate_left
 ·rintro w' ⟨s0,s1,s2,s3,s4,s5,s6⟩
  go_simp
  with_reducible rfl
 rotate_left
 ·simp only [Act.put,Sa_,Sb_,Sc_,i64_w,i32_w]
  rfl
 refine take_ (i:=9) (N:=some 12) (v:=?_) (a':=?_) #[true,true,false,true,true,false,true,true,true,true,true,false,false,false,false] rfl rfl (take_ofW HT_.out HW_.out (by kernel_rfl)) (fun _ _ _ h => h) (Or.inl ⟨by rfl,?_⟩) hHeld ?_ ?_;rotate_left
 ·rintro w' ⟨s0,s1,s2,s3,s4,s5,s6⟩
  go_simp
  with_reducible rfl
 rotate_left
 ·simp only [Act.put,Sa_,Sb_,Sc_,i64_w,i32_w]
  rfl
 refine take_ (i:=11) (N:=some 14) (v:=?_) (a':=?_) #[true,true,false,true,true,false,true,true,true,true,true,true,false,false,false] rfl rfl (take_ofW HT_.out HW_.out (by kernel_rfl)) (fun _ _ _ h => h) (Or.inl ⟨by rfl,?_⟩) hHeld ?_ ?_;rotate_left
 ·rintro w' ⟨s0,s1,s2,s3,s4,s5,s6⟩
  go_simp
  with_reducible rfl
 rotate_left
 ·simp only [Act.put,Sa_,Sb_,Sc_,i64_w,i32_w]
  rfl
 refine one_ (i:=2) (N:=some 5) #[true,true,true,true,true,false,true,true,true,true,true,true,false,false,false] rfl rfl (one_of HT_.out (by kernel_rfl)) (by decide) (fun K hK => ?_);refine goes_ Tryz.func36 (by kernel_rfl) rfl #[.string a0_0] (by rfl) rfl rfl (by (try simp only [List.map_toArray,List.map_cons,List.map_nil]);first|done|rfl|(simp only [List.length_drop,List.length_take];rfl)) ?_;with_reducible refine (impl_SiteHash.calls k a0_0 t136 _ A2.out).mono ?_;rintro e w7 ⟨rfl,hb⟩;refine ⟨_,rfl,?_⟩;replace BK135:=bb_ BK135 hb;replace HB:=bs_ HB hb;(try clear hb);(try clear hb2);(try clear hk);(try clear hi);refine hK.out _ _ ⟨q_ BK135 0 rfl,q_ BK135 1 rfl,q_ BK135 2 rfl,q_ BK135 3 rfl,q_ BK135 4 rfl,q_ BK135 5 rfl,q_ BK135 6 rfl⟩ (fun hHeld => ?_);clear hK K;refine norm_ (a':=?_) ?_ ?_;rotate_left
 ·show Act.put _ (some 5) _=_
  simp only [Act.put,Sa_,Sb_,Sc_,i64_w,i32_w]
  rfl
 refine one_ (i:=5) (N:=some 8) #[true,true,true,true,true,true,true,true,true,true,true,true,false,false,false] rfl rfl (one_of HT_.out (by kernel_rfl)) (by decide) (fun K hK => ?_);refine goes_ Tryz.func49 (by kernel_rfl) rfl #[.int .i64 211,.string a0_1] (by rfl) rfl rfl (by (try simp only [List.map_toArray,List.map_cons,List.map_nil]);first|done|rfl|(simp only [List.length_drop,List.length_take];rfl)) ?_;with_reducible refine (impl_DeriveFromString.calls k 211 a0_1 t137 _ A3.out).mono ?_;rintro e w8 ⟨rfl,hb⟩;refine ⟨_,rfl,?_⟩;replace BK135:=bb_ BK135 hb;replace HB:=bs_ HB hb;(try clear hb);(try clear hb2);(try clear hk);(try clear hi);refine hK.out _ _ ⟨q_ BK135 0 rfl,q_ BK135 1 rfl,q_ BK135 2 rfl,q_ BK135 3 rfl,q_ BK135 4 rfl,q_ BK135 5 rfl,q_ BK135 6 rfl⟩ (fun hHeld => ?_);clear hK K;refine norm_ (a':=?_) ?_ ?_;rotate_left
 ·show Act.put _ (some 8) _=_
  simp only [Act.put,Sa_,Sb_,Sc_,i64_w,i32_w]
  rfl
 refine one_ (i:=12) (N:=some 15) #[true,true,true,true,true,true,true,true,true,true,true,true,true,false,false] rfl rfl (one_of HT_.out (by kernel_rfl)) (by decide) (fun K hK => ?_);refine goes_ Tryz.func50 (by kernel_rfl) rfl #[.bool a0_4] (by rfl) rfl rfl (by (try simp only [List.map_toArray,List.map_cons,List.map_nil]);first|done|rfl|(simp only [List.length_drop,List.length_take];rfl)) ?_;with_reducible refine (impl_bit.calls a0_4 t138 _ A4.out).mono ?_;rintro e w' ⟨rfl,⟨nd,rfl⟩⟩;refine ⟨_,rfl,?_⟩;refine hK.out _ _ ⟨q_ BK135 0 rfl,q_ BK135 1 rfl,q_ BK135 2 rfl,q_ BK135 3 rfl,q_ BK135 4 rfl,q_ BK135 5 rfl,q_ BK135 6 rfl⟩ (fun hHeld => ?_);clear hK K;refine norm_ (a':=?_) ?_ ?_;rotate_left
 ·show Act.put _ (some 15) _=_
  simp only [Act.put,Sa_,Sb_,Sc_,i64_w,i32_w]
  rfl
 refine one_ (i:=13) (N:=some 16) #[true,true,true,true,true,true,true,true,true,true,true,true,true,true,false] rfl rfl (one_of HT_.out (by kernel_rfl)) (by decide) (fun K hK => ?_);refine Kd.R_lit_step (Kd.int .i64) _ 3 ?hg (N:=16) ?hd (xs:=([199,t136,t137,a0_2,a0_3,t138]:List Int)) (inner:=[.int .i64 199,.int .i64 t136,.int .i64 t137,.int .i64 a0_2,.int .i64 a0_3,.int .i64 t138]) (ok:=fun _ => True) (okp:=fun _ => True) ?hr ?hp (fun _ hk => hk) trivial (Below.refl _ _) (Nat.le_refl _) (by simp) ?_;(case hd => rfl);(case hg => rfl);(case hr => first|(go_simp;done)|(go_simp;rfl));(case hp => exact (Reps.one (show Kd.M (Kd.int .i64) _ _ _ 199 [.int .i64 199] from rfl) (Reps.one (show Kd.M (Kd.int .i64) _ _ _ t136 [.int .i64 t136] from rfl) (Reps.one (show Kd.M (Kd.int .i64) _ _ _ t137 [.int .i64 t137] from rfl) (Reps.one (show Kd.M (Kd.int .i64) _ _ _ a0_2 [.int .i64 a0_2] from rfl) (Reps.one (show Kd.M (Kd.int .i64) _ _ _ a0_3 [.int .i64 a0_3] from rfl) (Reps.one (show Kd.M (Kd.int .i64) _ _ _ t138 [.int .i64 t138] from rfl) (Reps.none _ _))))))));intro v140 w9 ho10 hb hg_ hnew_;clear hg_ hnew_
 (first|rw [← Ny139.out] at ho10|(simp only [Int.reduceToNat] at ho10;rw [← Ny139.out] at ho10))
 have HO141:=Am2_ (Kd.R_lower ho10 (below_size (xe_ HB)));replace BK135:=bb_ BK135 hb;replace HB:=bs_ HB hb;clear hb ho10;refine hK.out _ _ ⟨q_ BK135 0 rfl,q_ BK135 1 rfl,q_ BK135 2 rfl,q_ BK135 3 rfl,q_ BK135 4 rfl,q_ BK135 5 rfl,q_ BK135 6 rfl⟩ (fun hHeld => ?_);clear hK K;refine norm_ (a':=?_) ?_ ?_;rotate_left
 ·show Act.put _ (some 16) _=_
  simp only [Act.put,Sa_,Sb_,Sc_,i64_w,i32_w]
  rfl
 refine pure_ (i:=14) (N:=some 2) (v:=?_) (a':=?_) #[true,true,true,true,true,true,true,true,true,true,true,true,true,true,true] rfl rfl (any_of HT_.out (by kernel_rfl)) (fun _ _ _ h => h) (Or.inl ⟨by rfl,?_⟩) ?_ ?_;rotate_left
 ·intro w'
  go_simp
  with_reducible rfl
 rotate_left
 ·simp only [Act.put,Sa_,Sb_,Sc_,i64_w,i32_w]
  rfl
 refine done_ (done_of HT_.out (by kernel_rfl)) ?_
 try go_wp2
 go_ret
 exact ⟨_,by first|rfl|(simp [errW_none,errW_some] <;> rfl)|(simp [*,errW_none,errW_some] <;> rfl),by (with_reducible repeat (first|apply Kd.R_alloc|apply Kd.R_drewN|apply Kd.R_drew));exact HO141.out,by repeat (first|(with_reducible first|exact HB.out|apply below_alloc|apply pw_below_drewN|apply below_drew1|refine below_set ?_ GE135.out)|exact HB.out)⟩


/-! ### strings_Split: function 66 -/
def strings_Split.f (a0:ByteArray) (a1:ByteArray):Option (List ByteArray):=if a1=⟨#[46]⟩∧a0.size < 4294967281 then some (Man.labB a0) else none
set_option maxHeartbeats 1000000 in
theorem strings_Split.calls (a0:ByteArray) (a1:ByteArray) (r:List ByteArray) (w:World) (h:strings_Split.f a0 a1=some r) :
  Calls Tryz.prog 66 #[.string a0,.string a1] w fun e w' => ∃ v0_:Value,e=.returned (v0_)∧Kd.R Kd.string 9 w' w.heap.size (fun _ => True) v0_ r∧Below w.heap.size w w':=by
 unfold strings_Split.f at h
 by_cases hc:a1=⟨#[46]⟩∧a0.size < 4294967281
 case neg => rw [if_neg hc] at h;cases h
 rw [if_pos hc] at h
 obtain ⟨rfl,hs⟩:=hc;obtain rfl:=Option.some.inj h;clear h;have hle:=Lib.countB_le ⟨#[46]⟩ (by decide) a0.size a0 (Nat.le_refl _);have hlen:=Man.labB_len a0;have c:Calls Tryz.prog 96 #[.string a0,.string ⟨#[46]⟩,.int .i64 0,.int .i64 (-1)] w fun e w' => e=.returned (.slice (some ⟨w.heap.size,0,none⟩) (Man.labB a0).length (Man.labB a0).length)∧w'=w.alloc (.cells ((Man.labB a0).map Value.string).toArray 9):=by
  have c0:=Any.strings_genSplit_core Tryz.lays221 (by kernel_rfl) a0 ⟨#[46]⟩ 0 (-1) (Lib.countB a0 ⟨#[46]⟩ + 1) w hs (by decide) (Nat.zero_le _)
   (fun x cs hx => (Any.strings_Index_one Tryz.lays143 x 46 _).mono fun e w' ⟨he,hw⟩ => ⟨by rw [he];show _=Ending.returned (Value.int .i64 (Lib.index x.data.toList [46]));rw [Lib.index_one],hw⟩)
   ((Any.strings_Count_one Tryz.lays138 a0 46 w).mono fun e w' ⟨he,hw⟩ => ⟨by rw [he];show _=Ending.returned (Value.int .i64 ((Lib.count a0.data.toList [46]:Nat):Int));rw [Lib.count_one];rfl,hw⟩)
   (by decide) (by decide) (by rw [if_pos (by decide)];omega)
  rw [Nat.add_sub_cancel] at c0
  have e2:Lib.cellsOf (Lib.splitB ⟨#[46]⟩ 0 (Lib.countB a0 ⟨#[46]⟩) a0) (Lib.countB a0 ⟨#[46]⟩ + 1)=((Man.labB a0).map Value.string).toArray:=by rw [← hlen];exact Lib.cellsOf_full _
  rw [e2] at c0
  rw [hlen]
  have hl2:(Lib.splitB ⟨#[46]⟩ 0 (Lib.countB a0 ⟨#[46]⟩) a0).length=Lib.countB a0 ⟨#[46]⟩ + 1:=hlen;rw [hl2] at c0;exact c0
 have HC:=Am2_ c;have HL:(Man.labB a0).length ≤ 9223372036854775807:=by omega
 clear c hlen hle
 go_enter Tryz.func66,Tryz.ntmps66
 go_wp2_with fail
 refine HC.out.mono ?_;rintro e w1 ⟨rfl,rfl⟩
 go_wp2_with fail
 go_ret
 exact ⟨_,rfl,Man.made_strings w 9 _ HL,Man.made_below _ _ _⟩

/-! ### impl_IsHost: function 35 -/
mutual
def impl_IsHost.l0:Nat → List ByteArray → Int → Int → Option (Bool)
|0,_,_,_ => none
|k + 1,x11,x12,x13 => if x13 < x12 then (if 0 ≤ x13 then (if x13 < (x11.length:Int) then (if ((rdOf ByteArray.empty x11 x13).size:Int) < 1 then (impl_IsHost.j1 k (rdOf ByteArray.empty x11 x13) x11 x12 x13 true) else (if ((rdOf ByteArray.empty x11 x13).size:Int) > 20 then (impl_IsHost.j1 k (rdOf ByteArray.empty x11 x13) x11 x12 x13 true) else (if 0 < ((rdOf ByteArray.empty x11 x13).size:Int) then (if (bt (rdOf ByteArray.empty x11 x13) 0)=45 then (impl_IsHost.j1 k (rdOf ByteArray.empty x11 x13) x11 x12 x13 true) else (if 0 ≤ (wrap64 (((rdOf ByteArray.empty x11 x13).size:Int) - 1)) then (if (wrap64 (((rdOf ByteArray.empty x11 x13).size:Int) - 1)) < ((rdOf ByteArray.empty x11 x13).size:Int) then (impl_IsHost.j1 k (rdOf ByteArray.empty x11 x13) x11 x12 x13 ((bt (rdOf ByteArray.empty x11 x13) (wrap64 (((rdOf ByteArray.empty x11 x13).size:Int) - 1))) == 45)) else (none)) else (none))) else (none)))) else (none)) else (none)) else (some true)
def impl_IsHost.j1:Nat → ByteArray → List ByteArray → Int → Int → Bool → Option (Bool)
|0,_,_,_,_,_ => none
|k + 1,x4,x11,x12,x13,x37 => if x37=true then (some false) else (impl_IsHost.l1 k x4 0 x11 x12 x13)
def impl_IsHost.l1:Nat → ByteArray → Int → List ByteArray → Int → Int → Option (Bool)
|0,_,_,_,_,_ => none
|k + 1,x4,x5,x11,x12,x13 => if x5 < (x4.size:Int) then (if 0 ≤ x5 then (if (bt x4 x5) ≥ 97 then (if (bt x4 x5) ≤ 122 then (impl_IsHost.l1 k x4 (wrap64 (x5 + 1)) x11 x12 x13) else (if (bt x4 x5) ≥ 48 then (if (bt x4 x5) ≤ 57 then (impl_IsHost.l1 k x4 (wrap64 (x5 + 1)) x11 x12 x13) else (if ((bt x4 x5)=45) then (impl_IsHost.l1 k x4 (wrap64 (x5 + 1)) x11 x12 x13) else (some false))) else (if ((bt x4 x5)=45) then (impl_IsHost.l1 k x4 (wrap64 (x5 + 1)) x11 x12 x13) else (some false)))) else (if (bt x4 x5) ≥ 48 then (if (bt x4 x5) ≤ 57 then (impl_IsHost.l1 k x4 (wrap64 (x5 + 1)) x11 x12 x13) else (if ((bt x4 x5)=45) then (impl_IsHost.l1 k x4 (wrap64 (x5 + 1)) x11 x12 x13) else (some false))) else (if ((bt x4 x5)=45) then (impl_IsHost.l1 k x4 (wrap64 (x5 + 1)) x11 x12 x13) else (some false)))) else (none)) else (impl_IsHost.l0 k x11 x12 (wrap64 (x13 + 1)))
end
def impl_IsHost.f (k:Nat) (a0:ByteArray):Option (Bool):=if (a0.size:Int) > 60 then (some false) else ((strings_Split.f a0 (⟨#[46]⟩:ByteArray)).bind fun t142 => (impl_IsHost.l0 k t142 (t142.length:Int) 0))
theorem impl_IsHost.mono_l:∀ k,(∀ y0 y1 y2,LeO (impl_IsHost.l0 k y0 y1 y2) (impl_IsHost.l0 (k + 1) y0 y1 y2))∧(∀ y0 y1 y2 y3 y4,LeO (impl_IsHost.j1 k y0 y1 y2 y3 y4) (impl_IsHost.j1 (k + 1) y0 y1 y2 y3 y4))∧(∀ y0 y1 y2 y3 y4,LeO (impl_IsHost.l1 k y0 y1 y2 y3 y4) (impl_IsHost.l1 (k + 1) y0 y1 y2 y3 y4))
|0 => ⟨fun _ _ _ r h => by simp [impl_IsHost.l0] at h,fun _ _ _ _ _ r h => by simp [impl_IsHost.j1] at h,fun _ _ _ _ _ r h => by simp [impl_IsHost.l1] at h⟩
|k + 1 => by
  obtain ⟨ih0,ih1,ih2⟩:=impl_IsHost.mono_l k;refine ⟨?_,?_,?_⟩
  ·intro y0 y1 y2
   unfold impl_IsHost.l0
   repeat' first
  |(with_reducible exact ih0 _ _ _)
  |(with_reducible exact ih1 _ _ _ _ _)
  |(with_reducible exact ih2 _ _ _ _ _)
  |(with_reducible exact LeO.refl _)
  |(with_reducible exact LeO.none _)
  |(with_reducible refine LeO.ite ?_ ?_)
  |(with_reducible refine LeO.bind ?_ (fun _ => ?_))
  |exact ih0 _ _ _
  |exact ih1 _ _ _ _ _
  |exact ih2 _ _ _ _ _
  |exact LeO.none _
  |refine LeO.ite ?_ ?_
  |refine LeO.bind ?_ (fun _ => ?_)
  ·intro y0 y1 y2 y3 y4
   unfold impl_IsHost.j1
   repeat' first
  |(with_reducible exact ih0 _ _ _)
  |(with_reducible exact ih1 _ _ _ _ _)
  |(with_reducible exact ih2 _ _ _ _ _)
  |(with_reducible exact LeO.refl _)
  |(with_reducible exact LeO.none _)
  |(with_reducible refine LeO.ite ?_ ?_)
  |(with_reducible refine LeO.bind ?_ (fun _ => ?_))
  |exact ih0 _ _ _
  |exact ih1 _ _ _ _ _
  |exact ih2 _ _ _ _ _
  |exact LeO.none _
  |refine LeO.ite ?_ ?_
  |refine LeO.bind ?_ (fun _ => ?_)
  ·intro y0 y1 y2 y3 y4
   unfold impl_IsHost.l1
   repeat' first
  |(with_reducible exact ih0 _ _ _)
  |(with_reducible exact ih1 _ _ _ _ _)
  |(with_reducible exact ih2 _ _ _ _ _)
  |(with_reducible exact LeO.refl _)
  |(with_reducible exact LeO.none _)
  |(with_reducible refine LeO.ite ?_ ?_)
  |(with_reducible refine LeO.bind ?_ (fun _ => ?_))
  |exact ih0 _ _ _
  |exact ih1 _ _ _ _ _
  |exact ih2 _ _ _ _ _
  |exact LeO.none _
  |refine LeO.ite ?_ ?_
  |refine LeO.bind ?_ (fun _ => ?_)
theorem impl_IsHost.mono:∀ a0 k,LeO (impl_IsHost.f k a0) (impl_IsHost.f (k + 1) a0):=by
 intro a0 k;obtain ⟨ih0,ih1,ih2⟩:=impl_IsHost.mono_l k
 unfold impl_IsHost.f
 repeat' first
  |(with_reducible exact ih0 _ _ _)
  |(with_reducible exact ih1 _ _ _ _ _)
  |(with_reducible exact ih2 _ _ _ _ _)
  |(with_reducible exact LeO.refl _)
  |(with_reducible exact LeO.none _)
  |(with_reducible refine LeO.ite ?_ ?_)
  |(with_reducible refine LeO.bind ?_ (fun _ => ?_))
  |exact ih0 _ _ _
  |exact ih1 _ _ _ _ _
  |exact ih2 _ _ _ _ _
  |exact LeO.none _
  |refine LeO.ite ?_ ?_
  |refine LeO.bind ?_ (fun _ => ?_)
set_option maxHeartbeats 8000000 in
set_option maxRecDepth 100000 in
theorem impl_IsHost.calls (k:Nat) (a0:ByteArray) (r:Bool) (w:World) (h:impl_IsHost.f k a0=some r) :
  Calls Tryz.prog 35 #[.string a0] w fun e w' => e=.returned (.bool r)∧Below w.heap.size w w':=by
 have HB:=Am2_ (Below.refl w.heap.size w);have H:=h;unfold impl_IsHost.f at H;clear h
 by_cases c2:(a0.size:Int) > 60
 ·rw [if_pos c2] at H
  have c2b0:decide (60 < (a0.size:Int))=true:=decide_eq_true c2;have c2b1:decide (60 < a0.size)=true:=decide_eq_true (by omega);clear c2;obtain rfl:=Option.some.inj H
  go_enter Tryz.func35,Tryz.ntmps35
  go_wp2
  go_ret
  exact ⟨by first|rfl|(simp [errW_none,errW_some] <;> rfl)|(simp [*,errW_none,errW_some] <;> rfl),by repeat (first|(with_reducible first|exact HB.out|apply below_alloc|apply pw_below_drewN|apply below_drew1)|exact HB.out)⟩
 ·rw [if_neg c2] at H
  have c2b0:decide (60 < (a0.size:Int))=false:=decide_eq_false c2;have c2b1:decide (60 < a0.size)=false:=decide_eq_false (by omega);clear c2;replace H:=Option.bind_eq_some_iff.mp H;obtain ⟨t142,A30,H⟩:=H
  try dsimp only at H
  have A3:=Am2_ A30;clear A30;have H':=Am2_ H;clear H
  go_enter Tryz.func35,Tryz.ntmps35
  go_wp2_with (first|((with_reducible refine gate_callee (f:=66) rfl ?_);refine goesL_ (some 11) rfl rfl Tryz.func66 (by kernel_rfl) rfl #[.string a0,.string (⟨#[46]⟩:ByteArray)] rfl (by (try simp only [List.map_toArray,List.map_cons,List.map_nil]);first|done|rfl|(simp only [List.length_drop,List.length_take];rfl)) ?_;(with_reducible refine (strings_Split.calls a0 (⟨#[46]⟩:ByteArray) t142 _ A3.out).mono ?_);rintro e w4 ⟨v143,rfl,ho0,hb⟩;refine ⟨_,rfl,?_⟩;have n0_:=Am2_ (Kd.R_lower ho0 (below_size (xe_ HB)));have n1_:=bs_ HB hb;clear HB;have HO144:=n0_;have HB:=n1_;clear n0_ n1_;(try clear hb);(try clear hb2);(try clear hk);(try clear hi);(try clear ho0);obtain ⟨Ao5,co5,eo5⟩:=Kd.R_slice HO144.out;subst eo5))
  go_loopg [13] k (fun kq v13 w' => ∃ (x13_1:Int),v13=.int .i64 x13_1∧Aside0 (impl_IsHost.l0 kq t142 (t142.length:Int) x13_1=some r)∧Aside0 (kq ≤ k)∧Aside0 (Kd.R Kd.string 9 w' w.heap.size (fun _ => True) (.slice Ao5 t142.length co5) t142)∧Aside0 (Below w.heap.size w w'))
  case atStart => exact ⟨(0),(by first|rfl|(simp;done)|(simp [*];done)),H',⟨Nat.le_refl _⟩,⟨by (with_reducible repeat (first|apply Kd.R_alloc|apply Kd.R_drewN|apply Kd.R_drew));exact HO144.out⟩,⟨by repeat (first|(with_reducible first|exact HB.out|apply below_alloc|apply pw_below_drewN|apply below_drew1)|exact HB.out)⟩⟩
  case round =>
   clear H'
   try clear c2
   try clear c2b0
   try clear c2b1
   try clear p2
   try clear c3
   obtain ⟨x13_1,rfl,HA,HK1,HO_11,HB⟩:=hrel
   cases gk with
  |zero => exact absurd HA.out (by simp [impl_IsHost.l0])
  |succ k1 =>
    have H:=HA.out;clear HA;simp only [impl_IsHost.l0] at H
    by_cases c6:x13_1 < (t142.length:Int)
    ·rw [if_pos c6] at H
     have c6b0:decide (x13_1 < (t142.length:Int))=true:=decide_eq_true c6;clear c6
     by_cases c7:0 ≤ x13_1
     ·rw [if_pos c7] at H
      have c7b0:decide (0 ≤ x13_1)=true:=decide_eq_true c7;clear c7
      by_cases c8:x13_1 < (t142.length:Int)
      ·rw [if_pos c8] at H
       have c8b0:decide (x13_1 < (t142.length:Int))=true:=decide_eq_true c8;clear c8;have HC9:=Am2_ H;clear H;have p145:0 ≤ (x13_1:Int):=of_decide_eq_true (by first|(with_reducible assumption)|assumption);have q145:x13_1 < (t142.length:Int):=of_decide_eq_true (by first|(with_reducible assumption)|assumption);obtain ⟨ad145,e145,hx145_0⟩:=Kd.at_string (Kd.R_reads' HO_11.out).2.2 x13_1 p145 q145
       cases e145
       replace p145:=eq_true p145;replace q145:=eq_true q145
       go_upto_region 6 with (fail)
       go_cut [37] (fun v37 wc => ∃ (kq:Nat) (x37_8:Bool),v37=.bool x37_8∧Aside0 (impl_IsHost.j1 kq (rdOf ByteArray.empty t142 x13_1) t142 (t142.length:Int) x13_1 x37_8=some r)∧Aside0 (kq ≤ k1)∧Aside0 (Kd.R Kd.string 9 wc w.heap.size (fun _ => True) (.slice (some ad145) t142.length co5) t142)∧Aside0 (Below w.heap.size w wc))
       case first =>
        have H:=HC9.out;clear HC9
        by_cases c10:((rdOf ByteArray.empty t142 x13_1).size:Int) < 1
        ·rw [if_pos c10] at H
         have c10b0:decide (((rdOf ByteArray.empty t142 x13_1).size:Int) < 1)=true:=decide_eq_true c10;have c10b1:decide ((rdOf ByteArray.empty t142 x13_1).size < 1)=true:=decide_eq_true (by omega);clear c10
         (first|rw [c10b0]|(simp only [i64_w,i32_w];rw [c10b0])|skip)
         have H':=Am2_ H;clear H
         go_wp2
         go_meet
         case rel => exact ⟨_,(true),(by first|rfl|(simp;done)|(simp [*];done)),H',⟨by have:=HK1.out;first|omega|exact Nat.le_refl _⟩,⟨by (with_reducible repeat (first|apply Kd.R_alloc|apply Kd.R_drewN|apply Kd.R_drew));exact HO_11.out⟩,⟨by repeat (first|(with_reducible first|exact HB.out|apply below_alloc|apply pw_below_drewN|apply below_drew1)|exact HB.out)⟩⟩
        ·rw [if_neg c10] at H
         have c10b0:decide (((rdOf ByteArray.empty t142 x13_1).size:Int) < 1)=false:=decide_eq_false c10;have c10b1:decide ((rdOf ByteArray.empty t142 x13_1).size < 1)=false:=decide_eq_false (by omega);clear c10
         (first|rw [c10b0]|(simp only [i64_w,i32_w];rw [c10b0])|skip)
         by_cases c11:((rdOf ByteArray.empty t142 x13_1).size:Int) > 20
         ·rw [if_pos c11] at H
          have c11b0:decide (20 < ((rdOf ByteArray.empty t142 x13_1).size:Int))=true:=decide_eq_true c11;have c11b1:decide (20 < (rdOf ByteArray.empty t142 x13_1).size)=true:=decide_eq_true (by omega);clear c11;have H':=Am2_ H;clear H
          go_wp2
          go_meet
          case rel => exact ⟨_,(true),(by first|rfl|(simp;done)|(simp [*];done)),H',⟨by have:=HK1.out;first|omega|exact Nat.le_refl _⟩,⟨by (with_reducible repeat (first|apply Kd.R_alloc|apply Kd.R_drewN|apply Kd.R_drew));exact HO_11.out⟩,⟨by repeat (first|(with_reducible first|exact HB.out|apply below_alloc|apply pw_below_drewN|apply below_drew1)|exact HB.out)⟩⟩
         ·rw [if_neg c11] at H
          have c11b0:decide (20 < ((rdOf ByteArray.empty t142 x13_1).size:Int))=false:=decide_eq_false c11;have c11b1:decide (20 < (rdOf ByteArray.empty t142 x13_1).size)=false:=decide_eq_false (by omega);clear c11
          by_cases c12:0 < ((rdOf ByteArray.empty t142 x13_1).size:Int)
          ·rw [if_pos c12] at H
           have c12b0:decide (0 < ((rdOf ByteArray.empty t142 x13_1).size:Int))=true:=decide_eq_true c12;have c12b1:decide (0 < (rdOf ByteArray.empty t142 x13_1).size)=true:=decide_eq_true (by omega);clear c12
           by_cases c14:(bt (rdOf ByteArray.empty t142 x13_1) 0)=45
           ·rw [if_pos c14] at H
            have c14b0:((bt (rdOf ByteArray.empty t142 x13_1) 0) == 45)=true:=beq_iff_eq.mpr c14;have c14b1:((bt (rdOf ByteArray.empty t142 x13_1) 0) != 45)=false:=bne_eq_false_iff_eq.mpr c14;clear c14;have H':=Am2_ H;clear H;have p13:0 ≤ (0:Int):=(by omega);have q13:0 < (rdOf ByteArray.empty t142 x13_1).size:=(by have:(0:Int) < ((rdOf ByteArray.empty t142 x13_1).size:Int):=of_decide_eq_true (by first|(with_reducible assumption)|assumption);omega);have hx13:∀ h:0 < (rdOf ByteArray.empty t142 x13_1).size,(((rdOf ByteArray.empty t142 x13_1)[0]'h).toNat:Int)=bt (rdOf ByteArray.empty t142 x13_1) 0:=bt_at (rdOf ByteArray.empty t142 x13_1) 0;clear p13;have qi13:(0 < ((rdOf ByteArray.empty t142 x13_1).size:Int))=True:=eq_true (of_decide_eq_true (by first|(with_reducible assumption)|assumption));replace q13:=eq_true q13
            go_wp2
            go_meet
            case rel => exact ⟨_,(true),(by first|rfl|(simp;done)|(simp [*];done)),H',⟨by have:=HK1.out;first|omega|exact Nat.le_refl _⟩,⟨by (with_reducible repeat (first|apply Kd.R_alloc|apply Kd.R_drewN|apply Kd.R_drew));exact HO_11.out⟩,⟨by repeat (first|(with_reducible first|exact HB.out|apply below_alloc|apply pw_below_drewN|apply below_drew1)|exact HB.out)⟩⟩
           ·rw [if_neg c14] at H
            have c14b0:((bt (rdOf ByteArray.empty t142 x13_1) 0) == 45)=false:=beq_eq_false_iff_ne.mpr c14;have c14b1:((bt (rdOf ByteArray.empty t142 x13_1) 0) != 45)=true:=bne_iff_ne.mpr c14;obtain ⟨ji15,hji15⟩:∃ j_:Int,(wrap64 (((rdOf ByteArray.empty t142 x13_1).size:Int) - 1))=j_:=⟨_,rfl⟩;replace H:(if 0 ≤ (ji15) then (if (ji15) < ((rdOf ByteArray.empty t142 x13_1).size:Int) then (impl_IsHost.j1 k1 (rdOf ByteArray.empty t142 x13_1) t142 (t142.length:Int) x13_1 ((bt (rdOf ByteArray.empty t142 x13_1) (ji15)) == 45)) else (none)) else (none))=some r:=by first|(rw [hji15] at H;exact H)|(simp only [hji15] at H ⊢;exact H)
            have hji15w:(IntKind.i64.wrap (((rdOf ByteArray.empty t142 x13_1).size:Int) - 1))=ji15:=(i64_w _).trans hji15
            by_cases c16:0 ≤ (ji15)
            ·rw [if_pos c16] at H
             have c16b0:decide (0 ≤ (ji15))=true:=decide_eq_true c16;clear c16
             by_cases c17:(ji15) < ((rdOf ByteArray.empty t142 x13_1).size:Int)
             ·rw [if_pos c17] at H
              have c17b0:decide ((ji15) < ((rdOf ByteArray.empty t142 x13_1).size:Int))=true:=decide_eq_true c17;clear c17;have H':=Am2_ H;clear H;have p13:0 ≤ (0:Int):=(by omega);have q13:0 < (rdOf ByteArray.empty t142 x13_1).size:=(by have:(0:Int) < ((rdOf ByteArray.empty t142 x13_1).size:Int):=of_decide_eq_true (by first|(with_reducible assumption)|assumption);omega);have hx13:∀ h:0 < (rdOf ByteArray.empty t142 x13_1).size,(((rdOf ByteArray.empty t142 x13_1)[0]'h).toNat:Int)=bt (rdOf ByteArray.empty t142 x13_1) 0:=bt_at (rdOf ByteArray.empty t142 x13_1) 0;clear p13;have qi13:(0 < ((rdOf ByteArray.empty t142 x13_1).size:Int))=True:=eq_true (of_decide_eq_true (by first|(with_reducible assumption)|assumption));replace q13:=eq_true q13;have p18:0 ≤ ((ji15):Int):=of_decide_eq_true (by first|(with_reducible assumption)|assumption);have q18:(ji15) < ((rdOf ByteArray.empty t142 x13_1).size:Int):=of_decide_eq_true (by first|(with_reducible assumption)|assumption);have hx18:=bt_at (rdOf ByteArray.empty t142 x13_1) (ji15);replace p18:=eq_true p18;replace q18:=eq_true q18
              go_wp2
              go_meet
              case rel => exact ⟨_,(((bt (rdOf ByteArray.empty t142 x13_1) (ji15)) == 45)),(by first|rfl|(simp;done)|(simp only [← hji15] <;> (first|rfl|simp))|(simp [*];done)),H',⟨by have:=HK1.out;first|omega|exact Nat.le_refl _⟩,⟨by (with_reducible repeat (first|apply Kd.R_alloc|apply Kd.R_drewN|apply Kd.R_drew));exact HO_11.out⟩,⟨by repeat (first|(with_reducible first|exact HB.out|apply below_alloc|apply pw_below_drewN|apply below_drew1)|exact HB.out)⟩⟩
             ·rw [if_neg c17] at H
              exact absurd H (by simp)
            ·rw [if_neg c16] at H
             exact absurd H (by simp)
          ·rw [if_neg c12] at H
           exact absurd H (by simp)
       case rest =>
        clear HC9
        try clear c1
        try clear p1
        try clear q1
        try clear hx1
        try clear qi1
        try clear c2
        try clear c2b0
        try clear c2b1
        try clear p2
        try clear c3
        try clear c6
        try clear c6b0
        try clear p6
        try clear c7
        try clear c7b0
        try clear c8
        try clear c8b0
        try clear c10
        try clear c10b0
        try clear c10b1
        try clear c11
        try clear c11b0
        try clear c11b1
        try clear c12
        try clear c12b0
        try clear c12b1
        try clear p13
        try clear q13
        try clear hx13
        try clear qi13
        try clear c14
        try clear c14b0
        try clear c14b1
        try clear p14
        try clear q14
        try clear hx14
        try clear c16
        try clear c16b0
        try clear c17
        try clear c17b0
        try clear p18
        try clear q18
        try clear hx18
        try clear hx145_0
        try clear p13
        try clear p145
        try clear p18
        try clear p2
        try clear q13
        try clear q145
        try clear q18
        obtain ⟨kq,x37_8,rfl,HA,HJ8,HO_11,HB⟩:=hcut
        cases kq with
       |zero => exact absurd HA.out (by simp [impl_IsHost.j1])
       |succ kj8 =>
         have H:=HA.out;clear HA;simp only [impl_IsHost.j1] at H
         by_cases c19:x37_8=true
         ·subst c19
          rw [if_pos rfl] at H
          obtain rfl:=Option.some.inj H
          go_wp2
          go_ret
          exact ⟨by first|rfl|(simp [errW_none,errW_some] <;> rfl)|(simp [*,errW_none,errW_some] <;> rfl),by repeat (first|(with_reducible first|exact HB.out|apply below_alloc|apply pw_below_drewN|apply below_drew1)|exact HB.out)⟩
         ·replace c19:=Bool.eq_false_iff.mpr c19;subst c19
          rw [if_neg (show ¬ (false=true) by decide)] at H
          have H':=Am2_ H;clear H
          go_wp2
          go_loopg [5] kj8 (fun kq v5 w' => ∃ (x5_3:Int),v5=.int .i64 x5_3∧Aside0 (impl_IsHost.l1 kq (rdOf ByteArray.empty t142 x13_1) x5_3 t142 (t142.length:Int) x13_1=some r)∧Aside0 (kq ≤ kj8)∧Aside0 (Kd.R Kd.string 9 w' w.heap.size (fun _ => True) (.slice (some ad145) t142.length co5) t142)∧Aside0 (Below w.heap.size w w'))
          case atStart => exact ⟨(0),(by first|rfl|(simp;done)|(simp [*];done)),H',⟨Nat.le_refl _⟩,⟨by (with_reducible repeat (first|apply Kd.R_alloc|apply Kd.R_drewN|apply Kd.R_drew));exact HO_11.out⟩,⟨by repeat (first|(with_reducible first|exact HB.out|apply below_alloc|apply pw_below_drewN|apply below_drew1)|exact HB.out)⟩⟩
          case round =>
           clear H'
           try clear c1
           try clear p1
           try clear q1
           try clear hx1
           try clear qi1
           try clear c2
           try clear c2b0
           try clear c2b1
           try clear p2
           try clear c3
           try clear c6
           try clear c6b0
           try clear p6
           try clear c7
           try clear c7b0
           try clear c8
           try clear c8b0
           try clear c10
           try clear c10b0
           try clear c10b1
           try clear c11
           try clear c11b0
           try clear c11b1
           try clear c12
           try clear c12b0
           try clear c12b1
           try clear p13
           try clear q13
           try clear hx13
           try clear qi13
           try clear c14
           try clear c14b0
           try clear c14b1
           try clear p14
           try clear q14
           try clear hx14
           try clear c16
           try clear c16b0
           try clear c17
           try clear c17b0
           try clear p18
           try clear q18
           try clear hx18
           try clear c19
           try clear hx145_0
           try clear p1
           try clear p13
           try clear p14
           try clear p145
           try clear p18
           try clear p2
           try clear p6
           try clear q1
           try clear q13
           try clear q14
           try clear q145
           try clear q18
           obtain ⟨x5_3,rfl,HA,HK3,HO_11,HB⟩:=hrel
           cases gk with
          |zero => exact absurd HA.out (by simp [impl_IsHost.l1])
          |succ k3 =>
            have H:=HA.out;clear HA;simp only [impl_IsHost.l1] at H
            by_cases c20:x5_3 < ((rdOf ByteArray.empty t142 x13_1).size:Int)
            ·rw [if_pos c20] at H
             have c20b0:decide (x5_3 < ((rdOf ByteArray.empty t142 x13_1).size:Int))=true:=decide_eq_true c20;clear c20
             by_cases c21:0 ≤ x5_3
             ·rw [if_pos c21] at H
              have c21b0:decide (0 ≤ x5_3)=true:=decide_eq_true c21;clear c21
              by_cases c23:(bt (rdOf ByteArray.empty t142 x13_1) x5_3) ≥ 97
              ·rw [if_pos c23] at H
               have c23b0:decide (97 ≤ (bt (rdOf ByteArray.empty t142 x13_1) x5_3))=true:=decide_eq_true c23;clear c23
               by_cases c24:(bt (rdOf ByteArray.empty t142 x13_1) x5_3) ≤ 122
               ·rw [if_pos c24] at H
                have c24b0:decide ((bt (rdOf ByteArray.empty t142 x13_1) x5_3) ≤ 122)=true:=decide_eq_true c24;clear c24;have H':=Am2_ H;clear H;have p22:0 ≤ (x5_3:Int):=of_decide_eq_true (by first|(with_reducible assumption)|assumption);have q22:x5_3 < ((rdOf ByteArray.empty t142 x13_1).size:Int):=of_decide_eq_true (by first|(with_reducible assumption)|assumption);have hx22:=bt_at (rdOf ByteArray.empty t142 x13_1) x5_3;replace p22:=eq_true p22;replace q22:=eq_true q22
                go_wp2
                go_roundg k3
                case measure => have:=HK1.out;have:=HJ8.out;have:=HK3.out;omega
                case rel => exact ⟨(wrap64 (x5_3 + 1)),(by first|rfl|(simp;done)|(simp [*];done)),H',⟨by have:=HK1.out;have:=HJ8.out;have:=HK3.out;omega⟩,⟨by (with_reducible repeat (first|apply Kd.R_alloc|apply Kd.R_drewN|apply Kd.R_drew));exact HO_11.out⟩,⟨by repeat (first|(with_reducible first|exact HB.out|apply below_alloc|apply pw_below_drewN|apply below_drew1)|exact HB.out)⟩⟩
               ·rw [if_neg c24] at H
                have c24b0:decide ((bt (rdOf ByteArray.empty t142 x13_1) x5_3) ≤ 122)=false:=decide_eq_false c24;clear c24
                by_cases c25:(bt (rdOf ByteArray.empty t142 x13_1) x5_3) ≥ 48
                ·rw [if_pos c25] at H
                 have c25b0:decide (48 ≤ (bt (rdOf ByteArray.empty t142 x13_1) x5_3))=true:=decide_eq_true c25;clear c25
                 by_cases c26:(bt (rdOf ByteArray.empty t142 x13_1) x5_3) ≤ 57
                 ·rw [if_pos c26] at H
                  have c26b0:decide ((bt (rdOf ByteArray.empty t142 x13_1) x5_3) ≤ 57)=true:=decide_eq_true c26;clear c26;have H':=Am2_ H;clear H;have p22:0 ≤ (x5_3:Int):=of_decide_eq_true (by first|(with_reducible assumption)|assumption);have q22:x5_3 < ((rdOf ByteArray.empty t142 x13_1).size:Int):=of_decide_eq_true (by first|(with_reducible assumption)|assumption);have hx22:=bt_at (rdOf ByteArray.empty t142 x13_1) x5_3;replace p22:=eq_true p22;replace q22:=eq_true q22
                  go_wp2
                  go_roundg k3
                  case measure => have:=HK1.out;have:=HJ8.out;have:=HK3.out;omega
                  case rel => exact ⟨(wrap64 (x5_3 + 1)),(by first|rfl|(simp;done)|(simp [*];done)),H',⟨by have:=HK1.out;have:=HJ8.out;have:=HK3.out;omega⟩,⟨by (with_reducible repeat (first|apply Kd.R_alloc|apply Kd.R_drewN|apply Kd.R_drew));exact HO_11.out⟩,⟨by repeat (first|(with_reducible first|exact HB.out|apply below_alloc|apply pw_below_drewN|apply below_drew1)|exact HB.out)⟩⟩
                 ·rw [if_neg c26] at H
                  have c26b0:decide ((bt (rdOf ByteArray.empty t142 x13_1) x5_3) ≤ 57)=false:=decide_eq_false c26;clear c26
                  by_cases c27:((bt (rdOf ByteArray.empty t142 x13_1) x5_3)=45)
                  ·rw [if_pos c27] at H
                   have c27b0:((bt (rdOf ByteArray.empty t142 x13_1) x5_3) == 45)=true:=beq_iff_eq.mpr c27;have c27b1:((bt (rdOf ByteArray.empty t142 x13_1) x5_3) != 45)=false:=bne_eq_false_iff_eq.mpr c27;clear c27;have H':=Am2_ H;clear H;have p22:0 ≤ (x5_3:Int):=of_decide_eq_true (by first|(with_reducible assumption)|assumption);have q22:x5_3 < ((rdOf ByteArray.empty t142 x13_1).size:Int):=of_decide_eq_true (by first|(with_reducible assumption)|assumption);have hx22:=bt_at (rdOf ByteArray.empty t142 x13_1) x5_3;replace p22:=eq_true p22;replace q22:=eq_true q22
                   go_wp2
                   go_roundg k3
                   case measure => have:=HK1.out;have:=HJ8.out;have:=HK3.out;omega
                   case rel => exact ⟨(wrap64 (x5_3 + 1)),(by first|rfl|(simp;done)|(simp [*];done)),H',⟨by have:=HK1.out;have:=HJ8.out;have:=HK3.out;omega⟩,⟨by (with_reducible repeat (first|apply Kd.R_alloc|apply Kd.R_drewN|apply Kd.R_drew));exact HO_11.out⟩,⟨by repeat (first|(with_reducible first|exact HB.out|apply below_alloc|apply pw_below_drewN|apply below_drew1)|exact HB.out)⟩⟩
                  ·rw [if_neg c27] at H
                   have c27b0:((bt (rdOf ByteArray.empty t142 x13_1) x5_3) == 45)=false:=beq_eq_false_iff_ne.mpr c27;have c27b1:((bt (rdOf ByteArray.empty t142 x13_1) x5_3) != 45)=true:=bne_iff_ne.mpr c27;obtain rfl:=Option.some.inj H;have p22:0 ≤ (x5_3:Int):=of_decide_eq_true (by first|(with_reducible assumption)|assumption);have q22:x5_3 < ((rdOf ByteArray.empty t142 x13_1).size:Int):=of_decide_eq_true (by first|(with_reducible assumption)|assumption);have hx22:=bt_at (rdOf ByteArray.empty t142 x13_1) x5_3;replace p22:=eq_true p22;replace q22:=eq_true q22
                   go_wp2
                   go_ret
                   exact ⟨by first|rfl|(simp [errW_none,errW_some] <;> rfl)|(simp [*,errW_none,errW_some] <;> rfl),by repeat (first|(with_reducible first|exact HB.out|apply below_alloc|apply pw_below_drewN|apply below_drew1)|exact HB.out)⟩
                ·rw [if_neg c25] at H
                 have c25b0:decide (48 ≤ (bt (rdOf ByteArray.empty t142 x13_1) x5_3))=false:=decide_eq_false c25;clear c25
                 by_cases c28:((bt (rdOf ByteArray.empty t142 x13_1) x5_3)=45)
                 ·rw [if_pos c28] at H
                  have c28b0:((bt (rdOf ByteArray.empty t142 x13_1) x5_3) == 45)=true:=beq_iff_eq.mpr c28;have c28b1:((bt (rdOf ByteArray.empty t142 x13_1) x5_3) != 45)=false:=bne_eq_false_iff_eq.mpr c28;clear c28;have H':=Am2_ H;clear H;have p22:0 ≤ (x5_3:Int):=of_decide_eq_true (by first|(with_reducible assumption)|assumption);have q22:x5_3 < ((rdOf ByteArray.empty t142 x13_1).size:Int):=of_decide_eq_true (by first|(with_reducible assumption)|assumption);have hx22:=bt_at (rdOf ByteArray.empty t142 x13_1) x5_3;replace p22:=eq_true p22;replace q22:=eq_true q22
                  go_wp2
                  go_roundg k3
                  case measure => have:=HK1.out;have:=HJ8.out;have:=HK3.out;omega
                  case rel => exact ⟨(wrap64 (x5_3 + 1)),(by first|rfl|(simp;done)|(simp [*];done)),H',⟨by have:=HK1.out;have:=HJ8.out;have:=HK3.out;omega⟩,⟨by (with_reducible repeat (first|apply Kd.R_alloc|apply Kd.R_drewN|apply Kd.R_drew));exact HO_11.out⟩,⟨by repeat (first|(with_reducible first|exact HB.out|apply below_alloc|apply pw_below_drewN|apply below_drew1)|exact HB.out)⟩⟩
                 ·rw [if_neg c28] at H
                  have c28b0:((bt (rdOf ByteArray.empty t142 x13_1) x5_3) == 45)=false:=beq_eq_false_iff_ne.mpr c28;have c28b1:((bt (rdOf ByteArray.empty t142 x13_1) x5_3) != 45)=true:=bne_iff_ne.mpr c28;obtain rfl:=Option.some.inj H;have p22:0 ≤ (x5_3:Int):=of_decide_eq_true (by first|(with_reducible assumption)|assumption);have q22:x5_3 < ((rdOf ByteArray.empty t142 x13_1).size:Int):=of_decide_eq_true (by first|(with_reducible assumption)|assumption);have hx22:=bt_at (rdOf ByteArray.empty t142 x13_1) x5_3;replace p22:=eq_true p22;replace q22:=eq_true q22
                  go_wp2
                  go_ret
                  exact ⟨by first|rfl|(simp [errW_none,errW_some] <;> rfl)|(simp [*,errW_none,errW_some] <;> rfl),by repeat (first|(with_reducible first|exact HB.out|apply below_alloc|apply pw_below_drewN|apply below_drew1)|exact HB.out)⟩
              ·rw [if_neg c23] at H
               have c23b0:decide (97 ≤ (bt (rdOf ByteArray.empty t142 x13_1) x5_3))=false:=decide_eq_false c23;clear c23
               by_cases c29:(bt (rdOf ByteArray.empty t142 x13_1) x5_3) ≥ 48
               ·rw [if_pos c29] at H
                have c29b0:decide (48 ≤ (bt (rdOf ByteArray.empty t142 x13_1) x5_3))=true:=decide_eq_true c29;clear c29
                by_cases c30:(bt (rdOf ByteArray.empty t142 x13_1) x5_3) ≤ 57
                ·rw [if_pos c30] at H
                 have c30b0:decide ((bt (rdOf ByteArray.empty t142 x13_1) x5_3) ≤ 57)=true:=decide_eq_true c30;clear c30;have H':=Am2_ H;clear H;have p22:0 ≤ (x5_3:Int):=of_decide_eq_true (by first|(with_reducible assumption)|assumption);have q22:x5_3 < ((rdOf ByteArray.empty t142 x13_1).size:Int):=of_decide_eq_true (by first|(with_reducible assumption)|assumption);have hx22:=bt_at (rdOf ByteArray.empty t142 x13_1) x5_3;replace p22:=eq_true p22;replace q22:=eq_true q22
                 go_wp2
                 go_roundg k3
                 case measure => have:=HK1.out;have:=HJ8.out;have:=HK3.out;omega
                 case rel => exact ⟨(wrap64 (x5_3 + 1)),(by first|rfl|(simp;done)|(simp [*];done)),H',⟨by have:=HK1.out;have:=HJ8.out;have:=HK3.out;omega⟩,⟨by (with_reducible repeat (first|apply Kd.R_alloc|apply Kd.R_drewN|apply Kd.R_drew));exact HO_11.out⟩,⟨by repeat (first|(with_reducible first|exact HB.out|apply below_alloc|apply pw_below_drewN|apply below_drew1)|exact HB.out)⟩⟩
                ·rw [if_neg c30] at H
                 have c30b0:decide ((bt (rdOf ByteArray.empty t142 x13_1) x5_3) ≤ 57)=false:=decide_eq_false c30;clear c30
                 by_cases c31:((bt (rdOf ByteArray.empty t142 x13_1) x5_3)=45)
                 ·rw [if_pos c31] at H
                  have c31b0:((bt (rdOf ByteArray.empty t142 x13_1) x5_3) == 45)=true:=beq_iff_eq.mpr c31;have c31b1:((bt (rdOf ByteArray.empty t142 x13_1) x5_3) != 45)=false:=bne_eq_false_iff_eq.mpr c31;clear c31;have H':=Am2_ H;clear H;have p22:0 ≤ (x5_3:Int):=of_decide_eq_true (by first|(with_reducible assumption)|assumption);have q22:x5_3 < ((rdOf ByteArray.empty t142 x13_1).size:Int):=of_decide_eq_true (by first|(with_reducible assumption)|assumption);have hx22:=bt_at (rdOf ByteArray.empty t142 x13_1) x5_3;replace p22:=eq_true p22;replace q22:=eq_true q22
                  go_wp2
                  go_roundg k3
                  case measure => have:=HK1.out;have:=HJ8.out;have:=HK3.out;omega
                  case rel => exact ⟨(wrap64 (x5_3 + 1)),(by first|rfl|(simp;done)|(simp [*];done)),H',⟨by have:=HK1.out;have:=HJ8.out;have:=HK3.out;omega⟩,⟨by (with_reducible repeat (first|apply Kd.R_alloc|apply Kd.R_drewN|apply Kd.R_drew));exact HO_11.out⟩,⟨by repeat (first|(with_reducible first|exact HB.out|apply below_alloc|apply pw_below_drewN|apply below_drew1)|exact HB.out)⟩⟩
                 ·rw [if_neg c31] at H
                  have c31b0:((bt (rdOf ByteArray.empty t142 x13_1) x5_3) == 45)=false:=beq_eq_false_iff_ne.mpr c31;have c31b1:((bt (rdOf ByteArray.empty t142 x13_1) x5_3) != 45)=true:=bne_iff_ne.mpr c31;obtain rfl:=Option.some.inj H;have p22:0 ≤ (x5_3:Int):=of_decide_eq_true (by first|(with_reducible assumption)|assumption);have q22:x5_3 < ((rdOf ByteArray.empty t142 x13_1).size:Int):=of_decide_eq_true (by first|(with_reducible assumption)|assumption);have hx22:=bt_at (rdOf ByteArray.empty t142 x13_1) x5_3;replace p22:=eq_true p22;replace q22:=eq_true q22
                  go_wp2
                  go_ret
                  exact ⟨by first|rfl|(simp [errW_none,errW_some] <;> rfl)|(simp [*,errW_none,errW_some] <;> rfl),by repeat (first|(with_reducible first|exact HB.out|apply below_alloc|apply pw_below_drewN|apply below_drew1)|exact HB.out)⟩
               ·rw [if_neg c29] at H
                have c29b0:decide (48 ≤ (bt (rdOf ByteArray.empty t142 x13_1) x5_3))=false:=decide_eq_false c29;clear c29
                by_cases c32:((bt (rdOf ByteArray.empty t142 x13_1) x5_3)=45)
                ·rw [if_pos c32] at H
                 have c32b0:((bt (rdOf ByteArray.empty t142 x13_1) x5_3) == 45)=true:=beq_iff_eq.mpr c32;have c32b1:((bt (rdOf ByteArray.empty t142 x13_1) x5_3) != 45)=false:=bne_eq_false_iff_eq.mpr c32;clear c32;have H':=Am2_ H;clear H;have p22:0 ≤ (x5_3:Int):=of_decide_eq_true (by first|(with_reducible assumption)|assumption);have q22:x5_3 < ((rdOf ByteArray.empty t142 x13_1).size:Int):=of_decide_eq_true (by first|(with_reducible assumption)|assumption);have hx22:=bt_at (rdOf ByteArray.empty t142 x13_1) x5_3;replace p22:=eq_true p22;replace q22:=eq_true q22
                 go_wp2
                 go_roundg k3
                 case measure => have:=HK1.out;have:=HJ8.out;have:=HK3.out;omega
                 case rel => exact ⟨(wrap64 (x5_3 + 1)),(by first|rfl|(simp;done)|(simp [*];done)),H',⟨by have:=HK1.out;have:=HJ8.out;have:=HK3.out;omega⟩,⟨by (with_reducible repeat (first|apply Kd.R_alloc|apply Kd.R_drewN|apply Kd.R_drew));exact HO_11.out⟩,⟨by repeat (first|(with_reducible first|exact HB.out|apply below_alloc|apply pw_below_drewN|apply below_drew1)|exact HB.out)⟩⟩
                ·rw [if_neg c32] at H
                 have c32b0:((bt (rdOf ByteArray.empty t142 x13_1) x5_3) == 45)=false:=beq_eq_false_iff_ne.mpr c32;have c32b1:((bt (rdOf ByteArray.empty t142 x13_1) x5_3) != 45)=true:=bne_iff_ne.mpr c32;obtain rfl:=Option.some.inj H;have p22:0 ≤ (x5_3:Int):=of_decide_eq_true (by first|(with_reducible assumption)|assumption);have q22:x5_3 < ((rdOf ByteArray.empty t142 x13_1).size:Int):=of_decide_eq_true (by first|(with_reducible assumption)|assumption);have hx22:=bt_at (rdOf ByteArray.empty t142 x13_1) x5_3;replace p22:=eq_true p22;replace q22:=eq_true q22
                 go_wp2
                 go_ret
                 exact ⟨by first|rfl|(simp [errW_none,errW_some] <;> rfl)|(simp [*,errW_none,errW_some] <;> rfl),by repeat (first|(with_reducible first|exact HB.out|apply below_alloc|apply pw_below_drewN|apply below_drew1)|exact HB.out)⟩
             ·rw [if_neg c21] at H
              exact absurd H (by simp)
            ·rw [if_neg c20] at H
             have c20b0:decide (x5_3 < ((rdOf ByteArray.empty t142 x13_1).size:Int))=false:=decide_eq_false c20;clear c20;have H':=Am2_ H;clear H
             go_wp2
             go_roundg k3
             case measure => have:=HK1.out;have:=HJ8.out;have:=HK3.out;omega
             case rel => exact ⟨(wrap64 (x13_1 + 1)),(by first|rfl|(simp;done)|(simp [*];done)),H',⟨by have:=HK1.out;have:=HJ8.out;have:=HK3.out;omega⟩,⟨by (with_reducible repeat (first|apply Kd.R_alloc|apply Kd.R_drewN|apply Kd.R_drew));exact HO_11.out⟩,⟨by repeat (first|(with_reducible first|exact HB.out|apply below_alloc|apply pw_below_drewN|apply below_drew1)|exact HB.out)⟩⟩
      ·rw [if_neg c8] at H
       exact absurd H (by simp)
     ·rw [if_neg c7] at H
      exact absurd H (by simp)
    ·rw [if_neg c6] at H
     have c6b0:decide (x13_1 < (t142.length:Int))=false:=decide_eq_false c6;clear c6;obtain rfl:=Option.some.inj H
     go_wp2
     go_ret
     exact ⟨by first|rfl|(simp [errW_none,errW_some] <;> rfl)|(simp [*,errW_none,errW_some] <;> rfl),by repeat (first|(with_reducible first|exact HB.out|apply below_alloc|apply pw_below_drewN|apply below_drew1)|exact HB.out)⟩

/-! ### impl_InRange: function 91 -/
def impl_InRange.f (a0:Int) (a1:Int) (a2:Int):Option (Bool):=if a1 ≤ a0 then (some (decide (a0 ≤ a2))) else (some false)
set_option maxHeartbeats 8000000 in
set_option maxRecDepth 100000 in
theorem impl_InRange.calls (a0:Int) (a1:Int) (a2:Int) (r:Bool) (w:World) (h:impl_InRange.f a0 a1 a2=some r) :
  Calls Tryz.prog 91 #[.int .i64 a0,.int .i64 a1,.int .i64 a2] w fun e w' => e=.returned (.bool r)∧Drawn0 w w':=by
 have H:(if a1 ≤ a0 then (some (decide (a0 ≤ a2))) else (some false))=some r:=h;clear h
 by_cases c4:a1 ≤ a0
 ·rw [if_pos c4] at H
  have c4b0:decide (a1 ≤ a0)=true:=decide_eq_true c4;clear c4;obtain rfl:=Option.some.inj H
  go_enter Tryz.func91,Tryz.ntmps91
  go_wp2
  go_ret
  exact ⟨by first|rfl|(simp;done)|(simp [*];done),by repeat (first|exact Drawn0.refl _|apply Drawn0.step)⟩
 ·rw [if_neg c4] at H
  have c4b0:decide (a1 ≤ a0)=false:=decide_eq_false c4;clear c4;obtain rfl:=Option.some.inj H
  go_enter Tryz.func91,Tryz.ntmps91
  go_wp2
  go_ret
  exact ⟨by first|rfl|(simp;done)|(simp [*];done),by repeat (first|exact Drawn0.refl _|apply Drawn0.step)⟩

end Go.Proofs.YtogcoedmagoogaaGreatDoor.PFnAssertions
