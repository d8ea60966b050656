/- Functions and contracts of a law's callees, written by a program of this session (a changed print): each contract says that the machine's call answers what the plain function says. Conditions: the plain function's own answer. -/
import Derived.Test.YtogcoedmagoogaaGreatDoorZPFnAssertionsx0
import Derived.Test.YtogcoedmagoogaaGreatDoorZPFnAssertionsx1
import Derived.Test.YtogcoedmagoogaaGreatDoorZPFnAssertionsx5
import Derived.Test.YtogcoedmagoogaaGreatDoorZPFnAssertionsx6
import Derived.Test.YtogcoedmagoogaaGreatDoorZPFnAssertionsx8
import Derived.Test.YtogcoedmagoogaaGreatDoorZPFnAssertionsx9
namespace Go.Proofs.YtogcoedmagoogaaGreatDoor.PFnAssertions
open Go.RowKit Go.Proofs.YtogcoedmagoogaaGreatDoorW.PrintWords Go.Proofs.YtogcoedmagoogaaGreatDoorW.PrintLast Go.Proofs.YtogcoedmagoogaaGreatDoorW.PrintMore
attribute [local go_sem] max2_int min2_int max_two min_two max_three min_three max_four min_four   -- for this text's walks alone
set_option linter.unusedVariables false
set_option linter.unusedSimpArgs false
abbrev Am10_ {p : Prop} (h : p) : Aside0 p := Aside0.mk h

namespace Y10
class Ex_ (w W:World):Prop where
 k:∀ {g:Nat} {o:Obj},w.heap[g]?=some o → W.heap[g]?=some o
 e:∀ {v:World},Below v.heap.size v w → Below v.heap.size v W
instance (priority:=low) Ex_.rf (w:World):Ex_ w w:=⟨fun h => h,fun h => h⟩
instance Ex_.dn {w W:World} [x:Ex_ w W] (n:Nat):Ex_ w (W.drewN n):=⟨fun h => blk_drewN (x.k h) n,fun h => pw_below_drewN (x.e h) n⟩
instance Ex_.dr {w W:World} [x:Ex_ w W]:Ex_ w W.drew:=⟨fun h => blk_drew (x.k h),fun h => below_drew1 (x.e h)⟩
instance Ex_.al {w W:World} [x:Ex_ w W] (o:Obj):Ex_ w (W.alloc o):=⟨fun h => blk_alloc (x.k h) o,fun h => below_alloc (x.e h) o⟩
theorem xk_ {w W:World} {g:Nat} {o:Obj} (h:Aside0 (w.heap[g]?=some o)) [x:Ex_ w W]:W.heap[g]?=some o:=x.k h.out
theorem ne1_ {w W:World} {g g':Nat} {o:Obj} (hg:g'=W.heap.size) (h:Aside0 (w.heap[g]?=some o)) [x:Ex_ w W]:Aside0 (g ≠ g'):=Am10_ (by rw [hg];exact Nat.ne_of_lt (blk_lt (x.k h.out)))
theorem ne2_ {w W:World} {g g':Nat} {o:Obj} (hg:g'=W.heap.size) (h:Aside0 (w.heap[g]?=some o)) [x:Ex_ w W]:Aside0 (g' ≠ g):=Am10_ (by rw [hg];exact Nat.ne_of_gt (blk_lt (x.k h.out)))
theorem gw_ {v w W:World} {g':Nat} (hg:g'=W.heap.size) (h:Aside0 (Below v.heap.size v w)) [x:Ex_ w W]:Aside0 (v.heap.size ≤ g'):=Am10_ (by rw [hg];exact below_size (x.e h.out))
theorem bb_ {w W W':World} {g:Nat} {o:Obj} (h:Aside0 (w.heap[g]?=some o)) (hb:Below W.heap.size W W') [x:Ex_ w W]:Aside0 (W'.heap[g]?=some o):=Am10_ (blk_below (x.k h.out) hb)
theorem bs_ {v w W W':World} (h:Aside0 (Below v.heap.size v w)) (hb:Below W.heap.size W W') [x:Ex_ w W]:Aside0 (Below v.heap.size v W'):=Am10_ (below_step (x.e h.out) hb)
theorem xe_ {v w W:World} (h:Aside0 (Below v.heap.size v w)) [x:Ex_ w W]:Below v.heap.size v W:=x.e h.out
end Y10
open Y10

namespace Y10
abbrev Sa_ := @List.setIfInBounds_toArray
abbrev Sb_ := @List.set_cons_zero
abbrev Sc_ := @List.set_cons_succ
abbrev Sd_ := @List.map_toArray
abbrev Se_ := @List.map_cons
abbrev Sf_ := @List.map_nil
abbrev Sg_ := @List.length_drop
abbrev Sh_ := @List.length_take
theorem q_ {w W : World} {g : Nat} {t : TypeId} {cs : Array Value} (h : Aside0 (w.heap[g]? = some (.cells cs t (0, 0)))) (i : Nat) {v : Option Value} (e : cs[i]? = v) [x : Ex_ w W] : W.cell? ⟨g, i, none⟩ = v := (blk_cell (x.k h.out) i).trans e
abbrev M0_ : Array Bool := #[true,true,true,true,true,true,true,true,true,true,true,false,false,false]
abbrev M1_ : Array Bool := #[true,true,true,true,true,true,true,true,true,true,false,false,false,false]
abbrev M2_ : Array Bool := #[true,true,true,true,true,true,true,true,true,false,true,false,false,false]
abbrev M3_ : Array Bool := #[true,true,true,true,false,false,false,false,false,true,true,false,false,false]
abbrev M4_ : Array Bool := #[true,true,true,true,true,true,true,true,true,false,false,false,false,false]
abbrev M5_ : Array Bool := #[true,true,true,true,false,false,false,false,false,true,false,false,false,false]
abbrev M6_ : Array Bool := #[true,true,true,true,false,false,false,false,false,false,true,false,false,false]
abbrev M7_ : Array Bool := #[true,true,true,false,false,false,false,false,false,true,true,false,false,false]
abbrev M8_ : Array Bool := #[true,true,true,true,false,false,false,false,false,false,false,false,false,false]
abbrev M9_ : Array Bool := #[true,true,true,false,false,false,false,false,false,true,false,false,false,false]
abbrev M10_ : Array Bool := #[true,true,true,false,false,false,false,false,false,false,true,false,false,false]
abbrev M11_ : Array Bool := #[false,false,false,false,false,false,false,false,false,false,false,false,false,false,false,false,false,false,false,false]
abbrev M12_ : Array Bool := #[true,false,false,false,false,false,false,false,false,false,false,false,false,false,false,false,false,false,false,false]
abbrev M13_ : Array Bool := #[true,true,false,false,false,false,false,false,false,false,false,false,false,false,false,false,false,false,false,false]
abbrev M14_ : Array Bool := #[true,true,true,false,false,false,false,false,false,false,false,false,false,false,false,false,false,false,false,false]
abbrev M15_ : Array Bool := #[true,true,true,true,false,false,false,false,false,false,false,false,false,false,false,false,false,false,false,false]
abbrev M16_ : Array Bool := #[true,true,true,true,false,true,false,false,false,false,false,false,false,false,false,false,false,false,false,false]
abbrev M17_ : Array Bool := #[true,true,true,true,false,true,false,true,false,false,false,false,false,false,false,false,false,false,false,false]
abbrev M18_ : Array Bool := #[true,true,true,true,true,true,false,true,false,false,false,false,false,false,false,false,false,false,false,false]
abbrev M19_ : Array Bool := #[true,true,true,true,true,true,false,true,true,false,false,false,false,false,false,false,false,false,false,false]
abbrev M20_ : Array Bool := #[true,true,true,true,true,true,true,true,true,false,false,false,false,false,false,false,false,false,false,false]
abbrev M21_ : Array Bool := #[true,true,true,true,true,true,true,true,true,true,false,false,false,false,false,false,false,false,false,false]
abbrev M22_ : Array Bool := #[true,true,true,true,true,true,true,true,true,true,true,false,false,false,false,false,false,false,false,false]
abbrev M23_ : Array Bool := #[true,true,true,true,true,true,true,true,true,true,true,true,false,false,false,false,false,false,false,false]
abbrev M24_ : Array Bool := #[true,true,true,true,true,true,true,true,true,true,true,true,true,false,false,false,false,false,false,false]
abbrev M25_ : Array Bool := #[true,true,true,true,true,true,true,true,true,true,true,true,true,true,false,false,false,false,false,false]
abbrev M26_ : Array Bool := #[true,true,true,true,true,true,true,true,true,true,true,true,true,true,true,true,false,false,false,false]
abbrev M27_ : Array Bool := #[true,true,true,true,true,true,true,true,true,true,true,true,true,true,true,true,true,false,false,false]
abbrev M28_ : Array Bool := #[true,true,true,true,true,true,true,true,true,true,true,true,true,true,true,true,true,true,false,false]
abbrev M29_ : Array Bool := #[true,true,true,true,true,true,true,true,true,true,true,true,true,true,true,true,true,true,true,false]
abbrev M30_ : Array Bool := #[true,true,true,true,true,true,true,true,true,true,true,true,true,true,true,true,true,true,true,true]
abbrev M31_ : Array Bool := #[true,true,true,true,true,true,true,true,true,true,true,true,true,true,true,false,false,false,false,false]
end Y10
open Y10
/-! ### laws_FnAssertions: function 3 -/
def laws_FnAssertions.j0:Nat → List Int → Int → Bool → Int → Int → Int → Int → Int → Int → Int → Int → ByteArray → ByteArray → Int → Int → Bool → Int → Int → Option (Bool)
|0,_,_,_,_,_,_,_,_,_,_,_,_,_,_,_,_,_,_ => none
|k + 1,x0,x8,x51,x307000,x307001,x307002,x307003,x322000,x322001,x322002,x322003,x323000,x323001,x323002,x323003,x323004,x323005,x323006 => if x51=true then (some false) else ((laws_at.f x0 2).bind fun t329 => ((impl_CheckAssertion.f k x8 x323000 x323001 x323002 x323003 x323004 x323005 x323006 (⟨#[98,97,110,107,46,99,111,109]⟩:ByteArray) (wrap64 (t329 + 1)) x307003).bind fun t330 => (if t330=3 then ((laws_at.f x0 2).bind fun t331 => ((impl_CheckAssertion.f k x8 x323000 x323001 x323002 x323003 x323004 x323005 x323006 (⟨#[115,104,111,112,46,111,114,103]⟩:ByteArray) t331 x307003).bind fun t332 => (if t332=1 then ((laws_at.f x0 2).bind fun t333 => ((impl_CheckAssertion.f k x8 x323000 x323001 x323002 x323003 x323004 x323005 x323006 (⟨#[98,97,110,107,46,99,111,109]⟩:ByteArray) t333 x323005).bind fun t334 => (if t334=4 then ((laws_at.f x0 2).bind fun t335 => ((impl_CheckAssertion.f k x8 x323000 x323001 x323002 x323003 false x323005 x323006 (⟨#[98,97,110,107,46,99,111,109]⟩:ByteArray) t335 x307003).bind fun t336 => (if t336=2 then ((laws_at.f x0 2).bind fun t337 => ((impl_CheckAssertion.f k x8 x323000 (⟨#[104,116,116,112,115,58,47,47,98,97,110,107,46,99,111,109]⟩:ByteArray) x323002 x323003 x323004 x323005 x323006 (⟨#[98,97,110,107,46,99,111,109]⟩:ByteArray) t337 x307003).bind fun t338 => (if t338=5 then ((laws_at.f x0 2).bind fun t339 => ((impl_CheckAssertion.f k x8 x323000 x323001 x323002 x323003 x323004 (wrap64 (x323005 + 1)) x323006 (⟨#[98,97,110,107,46,99,111,109]⟩:ByteArray) t339 x307003).bind fun t340 => (if t340=5 then ((spec_SitePublic.f k x322000 x322001 x322002 x322003 (⟨#[98,97,110,107,46,99,111,109]⟩:ByteArray) 4).bind fun t341 => ((laws_at.f x0 2).bind fun t342 => ((impl_CheckAssertion.f k t341 x323000 x323001 x323002 x323003 x323004 x323005 x323006 (⟨#[98,97,110,107,46,99,111,109]⟩:ByteArray) t342 x307003).bind fun t343 => (if t343=5 then ((impl_IsClone.f x323000 x323001 x323002 x323003 x323004 x323005 x323006 x323005).bind fun t344 => (if t344=true then ((impl_AssertionName.f 4).bind fun t345 => (some (t345.toList == ([99,111,117,110,116,101,114]:List UInt8)))) else (some false))) else (some false))))) else (some false)))) else (some false)))) else (some false)))) else (some false)))) else (some false)))) else (some false))))
def laws_FnAssertions.f (k:Nat) (l0:List Int):Option (Bool):=(laws_big.f l0).bind fun t303 => (if t303=true then (some true) else ((laws_at.f l0 0).bind fun t304 => ((laws_at.f l0 1).bind fun t305 => ((laws_at.f l0 2).bind fun t308 => ((impl_MakeAssertion.f k 1 2 (wrap64 (1 + t304)) t305 true (⟨#[119,119,119,46,98,97,110,107,46,99,111,109]⟩:ByteArray) 443 (⟨#[98,97,110,107,46,99,111,109]⟩:ByteArray) 3 t308 true).bind fun bt309 => ((spec_SitePublic.f k 1 2 (wrap64 (1 + t304)) t305 (⟨#[98,97,110,107,46,99,111,109]⟩:ByteArray) 3).bind fun t323 => (if bt309.2.2.2.2.2.2.2.2.2.2.2=true then ((laws_at.f l0 2).bind fun t324 => ((impl_CheckAssertion.f k t323 bt309.2.2.2.2.1 bt309.2.2.2.2.2.1 bt309.2.2.2.2.2.2.1 bt309.2.2.2.2.2.2.2.1 bt309.2.2.2.2.2.2.2.2.1 bt309.2.2.2.2.2.2.2.2.2.1 bt309.2.2.2.2.2.2.2.2.2.2.1 (⟨#[98,97,110,107,46,99,111,109]⟩:ByteArray) t324 t305).bind fun t325 => (if t325=0 then (laws_FnAssertions.j0 k l0 t323 (bt309.2.2.2.1 != (wrap64 (t305 + 1))) 1 2 (wrap64 (1 + t304)) t305 bt309.1 bt309.2.1 bt309.2.2.1 bt309.2.2.2.1 bt309.2.2.2.2.1 bt309.2.2.2.2.2.1 bt309.2.2.2.2.2.2.1 bt309.2.2.2.2.2.2.2.1 bt309.2.2.2.2.2.2.2.2.1 bt309.2.2.2.2.2.2.2.2.2.1 bt309.2.2.2.2.2.2.2.2.2.2.1) else (laws_FnAssertions.j0 k l0 t323 true 1 2 (wrap64 (1 + t304)) t305 bt309.1 bt309.2.1 bt309.2.2.1 bt309.2.2.2.1 bt309.2.2.2.2.1 bt309.2.2.2.2.2.1 bt309.2.2.2.2.2.2.1 bt309.2.2.2.2.2.2.2.1 bt309.2.2.2.2.2.2.2.2.1 bt309.2.2.2.2.2.2.2.2.2.1 bt309.2.2.2.2.2.2.2.2.2.2.1)))) else (laws_FnAssertions.j0 k l0 t323 true 1 2 (wrap64 (1 + t304)) t305 bt309.1 bt309.2.1 bt309.2.2.1 bt309.2.2.2.1 bt309.2.2.2.2.1 bt309.2.2.2.2.2.1 bt309.2.2.2.2.2.2.1 bt309.2.2.2.2.2.2.2.1 bt309.2.2.2.2.2.2.2.2.1 bt309.2.2.2.2.2.2.2.2.2.1 bt309.2.2.2.2.2.2.2.2.2.2.1))))))))
theorem laws_FnAssertions.mono_l:∀ k,(∀ y0 y1 y2 y3 y4 y5 y6 y7 y8 y9 y10 y11 y12 y13 y14 y15 y16 y17,LeO (laws_FnAssertions.j0 k y0 y1 y2 y3 y4 y5 y6 y7 y8 y9 y10 y11 y12 y13 y14 y15 y16 y17) (laws_FnAssertions.j0 (k + 1) y0 y1 y2 y3 y4 y5 y6 y7 y8 y9 y10 y11 y12 y13 y14 y15 y16 y17))
|0 => fun _ _ _ _ _ _ _ _ _ _ _ _ _ _ _ _ _ _ r h => by simp [laws_FnAssertions.j0] at h
|k + 1 => by
  have ih0:=laws_FnAssertions.mono_l k
  ·intro y0 y1 y2 y3 y4 y5 y6 y7 y8 y9 y10 y11 y12 y13 y14 y15 y16 y17
   unfold laws_FnAssertions.j0
   repeat' first
  |(with_reducible exact ih0 _ _ _ _ _ _ _ _ _ _ _ _ _ _ _ _ _ _)
  |(with_reducible exact impl_CheckAssertion.mono _ _ _ _ _ _ _ _ _ _ _ _)
  |(with_reducible exact impl_MakeAssertion.mono _ _ _ _ _ _ _ _ _ _ _ _)
  |(with_reducible exact spec_SitePublic.mono _ _ _ _ _ _ _)
  |(with_reducible exact LeO.refl _)
  |(with_reducible exact LeO.none _)
  |(with_reducible refine LeO.ite ?_ ?_)
  |(with_reducible refine LeO.bind ?_ (fun _ => ?_))
  |exact ih0 _ _ _ _ _ _ _ _ _ _ _ _ _ _ _ _ _ _
  |exact impl_CheckAssertion.mono _ _ _ _ _ _ _ _ _ _ _ _
  |exact impl_MakeAssertion.mono _ _ _ _ _ _ _ _ _ _ _ _
  |exact spec_SitePublic.mono _ _ _ _ _ _ _
  |exact LeO.none _
  |refine LeO.ite ?_ ?_
  |refine LeO.bind ?_ (fun _ => ?_)
theorem laws_FnAssertions.mono:∀ a0 k,LeO (laws_FnAssertions.f k a0) (laws_FnAssertions.f (k + 1) a0):=by
 intro a0 k;have ih0:=laws_FnAssertions.mono_l k
 unfold laws_FnAssertions.f
 repeat' first
  |(with_reducible exact ih0 _ _ _ _ _ _ _ _ _ _ _ _ _ _ _ _ _ _)
  |(with_reducible exact impl_CheckAssertion.mono _ _ _ _ _ _ _ _ _ _ _ _)
  |(with_reducible exact impl_MakeAssertion.mono _ _ _ _ _ _ _ _ _ _ _ _)
  |(with_reducible exact spec_SitePublic.mono _ _ _ _ _ _ _)
  |(with_reducible exact LeO.refl _)
  |(with_reducible exact LeO.none _)
  |(with_reducible refine LeO.ite ?_ ?_)
  |(with_reducible refine LeO.bind ?_ (fun _ => ?_))
  |exact ih0 _ _ _ _ _ _ _ _ _ _ _ _ _ _ _ _ _ _
  |exact impl_CheckAssertion.mono _ _ _ _ _ _ _ _ _ _ _ _
  |exact impl_MakeAssertion.mono _ _ _ _ _ _ _ _ _ _ _ _
  |exact spec_SitePublic.mono _ _ _ _ _ _ _
  |exact LeO.none _
  |refine LeO.ite ?_ ?_
  |refine LeO.bind ?_ (fun _ => ?_)
def laws_FnAssertions.T5:Bool × List (List Nat × List Nat):=(true,[([],[]),([],[]),([],[]),([2],[2]),([0,1,3,3],[0,1,3]),([4],[4]),([5],[5]),([5],[5]),([5],[5]),([],[]),([],[]),([9,6,4,0,1,2,3,4,5,6,9,10],[6,9]),([10,7,11,0,1,2,3,4,5,6,7,9,10,11],[7,10]),([8,12,0,1,2,3,4,5,6,7,8,9,10,11,12],[8])])
def laws_FnAssertions.B5:List Nat:=[0,0,0,4,15,31,63,63,63,0,0,1663,3839,8191]
theorem laws_FnAssertions.tab5:rtab .any (opsOf Tryz.f3 5)=laws_FnAssertions.T5:=by kernel_rfl
theorem laws_FnAssertions.bits5:waitsOk laws_FnAssertions.T5.2 laws_FnAssertions.B5=true:=by kernel_rfl
def laws_FnAssertions.T7:Bool × List (List Nat × List Nat):=(true,[([],[]),([0],[0]),([1],[1]),([2],[2]),([2],[2]),([2],[2]),([5,2,2],[2,5]),([2],[2]),([7,2],[2,7]),([3,4,6,8,6,2],[2,3,4,6,8]),([9,2],[2,9]),([2,10],[2,10]),([11,9],[11]),([12],[12]),([13,12],[12,13]),([12],[12]),([15,12],[12,15]),([16,12],[12,16]),([14,17,12],[12,14,17]),([12,18],[12,18])])
def laws_FnAssertions.B7:List Nat:=[0,1,3,7,7,7,39,7,135,511,1023,2047,4095,8191,16383,8191,40959,106495,262143,524287]
theorem laws_FnAssertions.tab7:rtab .any (opsOf Tryz.f3 7)=laws_FnAssertions.T7:=by kernel_rfl
theorem laws_FnAssertions.bits7:waitsOk laws_FnAssertions.T7.2 laws_FnAssertions.B7=true:=by kernel_rfl
def laws_FnAssertions.T15:Bool × List (List Nat × List Nat):=(true,[([],[]),([],[]),([],[]),([2],[2]),([3],[3]),([],[]),([5],[5]),([0,1,4,6,3],[0,1,4,6]),([7],[7]),([8,7],[8]),([9],[9]),([9],[9]),([9],[9]),([12,9,9],[9,12]),([9],[9]),([14,9],[9,14]),([10,11,13,15,13,9],[9,10,11,13,15]),([16,9],[9,16]),([9,17],[9,17]),([18,16],[18]),([19],[19]),([19],[19]),([19],[19]),([22,19,19],[19,22]),([19],[19]),([24,19],[19,24]),([20,21,23,25,23,19],[19,20,21,23,25]),([26,19],[19,26]),([19,27],[19,27]),([28,26],[28]),([29],[29]),([29],[29]),([29],[29]),([32,29,29],[29,32]),([29],[29]),([34,29],[29,34]),([30,31,33,35,33,29],[29,30,31,33,35]),([36,29],[29,36]),([29,37],[29,37]),([38,36],[38]),([39],[39]),([39],[39]),([39],[39]),([42,39,39],[39,42]),([39],[39]),([44,39],[39,44]),([40,41,43,45,43,39],[39,40,41,43,45]),([46,39],[39,46]),([39,47],[39,47]),([48,46],[48]),([49],[49]),([49],[49]),([49],[49]),([52,49,49],[49,52]),([49],[49]),([54,49],[49,54]),([50,51,53,55,53,49],[49,50,51,53,55]),([56,49],[49,56]),([49,57],[49,57]),([58,56],[58]),([59],[59]),([60,59,59],[59,60]),([59],[59]),([59],[59]),([63,61,59],[59,63]),([59],[59]),([65,59],[59,65]),([61,62,64,66,64,59],[59,61,62,64,66]),([67,59],[59,67]),([59,68],[59,68]),([69,67],[69]),([70],[70]),([70],[70]),([72,70],[70,72]),([71,73,70,70],[70,71,73]),([70,74],[70,74]),([75,74],[75]),([76,76],[76]),([77,76],[76,77]),([76,78],[76,78]),([79,77,0,1,2,3,4,5,6,7,8,9,10,11,12,13,14,15,16,17,18,19,20,21,22,23,24,25,26,27,28,29,30,31,32,33,34,35,36,37,38,39,40,41,42,43,44,45,46,47,48,49,50,51,52,53,54,55,56,57,58,59,60,61,62,63,64,65,66,67,68,69,70,71,72,73,74,75,76,77,78,79],[79])])
def laws_FnAssertions.B15:List Nat:=[0,0,0,4,12,0,32,127,255,511,1023,1023,1023,5119,1023,17407,65535,131071,262143,524287,1048575,1048575,1048575,5242879,1048575,17825791,67108863,134217727,268435455,536870911,1073741823,1073741823,1073741823,5368709119,1073741823,18253611007,68719476735,137438953471,274877906943,549755813887,1099511627775,1099511627775,1099511627775,5497558138879,1099511627775,18691697672191,70368744177663,140737488355327,281474976710655,562949953421311,1125899906842623,1125899906842623,1125899906842623,5629499534213119,1125899906842623,19140298416324607,72057594037927935,144115188075855871,288230376151711743,576460752303423487,1152921504606846975,2305843009213693951,1152921504606846975,1152921504606846975,13835058055282163711,1152921504606846975,38046409652025950207,147573952589676412927,295147905179352825855,590295810358705651711,1180591620717411303423,2361183241434822606847,2361183241434822606847,7083549724304467820543,18889465931478580854783,37778931862957161709567,75557863725914323419135,151115727451828646838271,302231454903657293676543,604462909807314587353087,1208925819614629174706175]
theorem laws_FnAssertions.tab15:rtab .any (opsOf Tryz.f3 15)=laws_FnAssertions.T15:=by kernel_rfl
theorem laws_FnAssertions.bits15:waitsOk laws_FnAssertions.T15.2 laws_FnAssertions.B15=true:=by kernel_rfl
set_option maxHeartbeats 8000000 in
set_option maxRecDepth 100000 in
theorem laws_FnAssertions.calls (k:Nat) (A0:Option Addr) (c0:Nat) (l0:List Int) (r:Bool) (hr_:r=true) (w:World) (ht_:Man.Tab w) (hr0:Kd.C (Kd.int .u8) w A0 l0.length l0) (hc0:l0.length ≤ c0) (h:laws_FnAssertions.f k l0=some r) :
  Calls Tryz.prog 3 #[.slice A0 l0.length c0] w fun e w' => e=.returned (.bool r)∧Below w.heap.size w w':=by
 subst hr_;have HT:=Am10_ ht_;clear ht_;have hu26:=Tryz.underlying26;have hu28:=Tryz.underlying28;have hu30:=Tryz.underlying30;have HR0:=Am10_ hr0;have HC0:=Am10_ hc0;clear hr0 hc0;have HB:=Am10_ (Below.refl w.heap.size w);have H:=h;unfold laws_FnAssertions.f at H;clear h;replace H:=Option.bind_eq_some_iff.mp H;obtain ⟨t303,A20,H⟩:=H
 try dsimp only at H
 have A2:=Am10_ A20;clear A20
 by_cases c3:t303=true
 ·subst c3
  rw [if_pos rfl] at H
  clear H
  go_enter Tryz.func3,Tryz.ntmps3
  go_wp2_with (first|((with_reducible refine gate_callee (f:=7) rfl ?_);refine goesL_ (some 13) rfl rfl Tryz.func7 (by kernel_rfl) rfl #[.slice A0 l0.length c0] rfl (by (try simp only [Sd_,Se_,Sf_]);first|done|rfl|(simp only [Sg_,Sh_];rfl)) ?_;(with_reducible refine (laws_big.calls _ _ l0 true _ ?side1 ?side2 A2.out).mono ?_);(case side1 => repeat (first|exact HR0.out|(with_reducible refine Kd.C_alloc ?_ _)|(with_reducible refine Kd.C_drewN ?_ _)|(with_reducible refine Kd.C_drew ?_)));(case side2 => exact HC0.out);rintro e w' ⟨rfl,⟨nd,rfl⟩⟩;refine ⟨_,rfl,?_⟩))
  go_ret
  exact ⟨by first|rfl|(simp [errW_none,errW_some] <;> rfl)|(simp [*,errW_none,errW_some] <;> rfl),by repeat (first|(with_reducible first|exact HB.out|apply below_alloc|apply pw_below_drewN|apply below_drew1)|exact HB.out)⟩
 ·replace c3:=Bool.eq_false_iff.mpr c3;subst c3
  rw [if_neg (show ¬ (false=true) by decide)] at H
  replace H:=Option.bind_eq_some_iff.mp H;obtain ⟨t304,A40,H⟩:=H
  try dsimp only at H
  have A4:=Am10_ A40;clear A40;replace H:=Option.bind_eq_some_iff.mp H;obtain ⟨t305,A50,H⟩:=H
  try dsimp only at H
  have A5:=Am10_ A50;clear A50;replace H:=Option.bind_eq_some_iff.mp H;obtain ⟨t308,A60,H⟩:=H
  try dsimp only at H
  have A6:=Am10_ A60;clear A60;replace H:=Option.bind_eq_some_iff.mp H;obtain ⟨⟨t309,t310,t311,t312,t313,t314,t315,t316,t317,t318,t319,t320⟩,A70,H⟩:=H
  try dsimp only at H
  have A7:=Am10_ A70;clear A70;replace H:=Option.bind_eq_some_iff.mp H;obtain ⟨t323,A80,H⟩:=H
  try dsimp only at H
  have A8:=Am10_ A80;clear A80;have HC9:=Am10_ H;clear H
  go_enter Tryz.func3,Tryz.ntmps3
  try go_wp2_with (first|((with_reducible refine gate_callee (f:=7) rfl ?_);refine goesL_ (some 13) rfl rfl Tryz.func7 (by kernel_rfl) rfl #[.slice A0 l0.length c0] rfl (by (try simp only [Sd_,Se_,Sf_]);first|done|rfl|(simp only [Sg_,Sh_];rfl)) ?_;(with_reducible refine (laws_big.calls _ _ l0 false _ ?side1 ?side2 A2.out).mono ?_);(case side1 => repeat (first|exact HR0.out|(with_reducible refine Kd.C_alloc ?_ _)|(with_reducible refine Kd.C_drewN ?_ _)|(with_reducible refine Kd.C_drew ?_)));(case side2 => exact HC0.out);rintro e w' ⟨rfl,⟨nd,rfl⟩⟩;refine ⟨_,rfl,?_⟩)|((with_reducible refine gate_callee (f:=8) rfl ?_);refine goesL_ (some 15) rfl rfl Tryz.func8 (by kernel_rfl) rfl #[.slice A0 l0.length c0,.int .i64 0] rfl (by (try simp only [Sd_,Se_,Sf_]);first|done|rfl|(simp only [Sg_,Sh_];rfl)) ?_;(with_reducible refine (laws_at.calls _ _ l0 0 t304 _ ?side1 ?side2 A4.out).mono ?_);(case side1 => repeat (first|exact HR0.out|(with_reducible refine Kd.C_alloc ?_ _)|(with_reducible refine Kd.C_drewN ?_ _)|(with_reducible refine Kd.C_drew ?_)));(case side2 => exact HC0.out);rintro e w' ⟨rfl,⟨nd,rfl⟩⟩;refine ⟨_,rfl,?_⟩)|((with_reducible refine gate_callee (f:=8) rfl ?_);refine goesL_ (some 18) rfl rfl Tryz.func8 (by kernel_rfl) rfl #[.slice A0 l0.length c0,.int .i64 1] rfl (by (try simp only [Sd_,Se_,Sf_]);first|done|rfl|(simp only [Sg_,Sh_];rfl)) ?_;(with_reducible refine (laws_at.calls _ _ l0 1 t305 _ ?side1 ?side2 A5.out).mono ?_);(case side1 => repeat (first|exact HR0.out|(with_reducible refine Kd.C_alloc ?_ _)|(with_reducible refine Kd.C_drewN ?_ _)|(with_reducible refine Kd.C_drew ?_)));(case side2 => exact HC0.out);rintro e w' ⟨rfl,⟨nd,rfl⟩⟩;refine ⟨_,rfl,?_⟩)|((with_reducible refine gate_dst (N:=3) rfl ?_);refine box_event ?hg (N:=3) ?hd (cs:=#[.int .i64 0,.int .i64 0,.int .i64 0,.int .i64 0]) (t:=26) ?hr ?_;(case hd => rfl);(case hg => rfl);(case hr => first|(go_simp;done)|(go_simp;rfl));intro gb306 hg w10 hbox hb;have n0_:=Am10_ (below_step (by repeat (first|(with_reducible first|exact HB.out|apply below_alloc|apply pw_below_drewN|apply below_drew1)|exact HB.out)) hb);have n1_:=Am10_ (hbox);have n2_:=Am10_ ((by rw [hg];exact (below_size (by repeat (first|(with_reducible first|exact HB.out|apply below_alloc|apply pw_below_drewN|apply below_drew1)|exact HB.out))):w.heap.size ≤ gb306));have n3_:=Am10_ ((by rw [hg];exact (below_size (by repeat (first|(with_reducible first|exact HB.out|apply below_alloc|apply pw_below_drewN|apply below_drew1)|exact HB.out))):w.heap.size ≤ gb306));clear HB;have HB:=n0_;have BK306:=n1_;have GW306:=n2_;have GE306:=n3_;clear n0_ n1_ n2_ n3_;clear hb hbox hg;have hcz11_0:w10.cell? ⟨gb306,0,none⟩=some (.int .i64 0):=q_ BK306 0 rfl;have hcz11_1:w10.cell? ⟨gb306,1,none⟩=some (.int .i64 0):=q_ BK306 1 rfl;have hcz11_2:w10.cell? ⟨gb306,2,none⟩=some (.int .i64 0):=q_ BK306 2 rfl;have hcz11_3:w10.cell? ⟨gb306,3,none⟩=some (.int .i64 0):=q_ BK306 3 rfl;have hfz11_0:=blk_frozen BK306.out 0;have hfz11_1:=blk_frozen BK306.out 1;have hfz11_2:=blk_frozen BK306.out 2;have hfz11_3:=blk_frozen BK306.out 3)|((with_reducible refine gate_dst (N:=4) rfl ?_);refine box_event ?hg (N:=4) ?hd (cs:=#[.bool false,.string (⟨#[]⟩:ByteArray),.int .i64 0]) (t:=28) ?hr ?_;(case hd => rfl);(case hg => rfl);(case hr => first|(go_simp;done)|(go_simp;rfl));intro gb307 hg w12 hbox hb;have n0_:=Am10_ (blk_below (g:=gb306) (o:=.cells #[.int .i64 1,.int .i64 2,.int .i64 (wrap64 (1 + t304)),.int .i64 t305] 26 (0,0)) (by (with_reducible repeat (first|refine blk_drewN ?_ _|refine blk_drew ?_|refine blk_alloc ?_ _));refine blk_put (cs:=#[.int .i64 1,.int .i64 2,.int .i64 (wrap64 (1 + t304)),.int .i64 0]) ?_ 3 _ rfl;(with_reducible repeat (first|refine blk_drewN ?_ _|refine blk_drew ?_|refine blk_alloc ?_ _));refine blk_put (cs:=#[.int .i64 1,.int .i64 2,.int .i64 0,.int .i64 0]) ?_ 2 _ rfl;(with_reducible repeat (first|refine blk_drewN ?_ _|refine blk_drew ?_|refine blk_alloc ?_ _));refine blk_put (cs:=#[.int .i64 1,.int .i64 0,.int .i64 0,.int .i64 0]) ?_ 1 _ rfl;(with_reducible repeat (first|refine blk_drewN ?_ _|refine blk_drew ?_|refine blk_alloc ?_ _));refine blk_put (cs:=#[.int .i64 0,.int .i64 0,.int .i64 0,.int .i64 0]) ?_ 0 _ rfl;(with_reducible repeat (first|refine blk_drewN ?_ _|refine blk_drew ?_|refine blk_alloc ?_ _));exact BK306.out) hb);have n1_:=Am10_ (below_step (by repeat (first|(with_reducible first|exact HB.out|apply below_alloc|apply pw_below_drewN|apply below_drew1|refine below_set ?_ GE306.out)|exact HB.out)) hb);have n2_:=Am10_ (hbox);have n3_:=Am10_ ((by rw [hg];exact (below_size (by repeat (first|(with_reducible first|exact HB.out|apply below_alloc|apply pw_below_drewN|apply below_drew1|refine below_set ?_ GE306.out)|exact HB.out))):w.heap.size ≤ gb307));have n4_:=Am10_ ((by rw [hg];exact (below_size (by repeat (first|(with_reducible first|exact HB.out|apply below_alloc|apply pw_below_drewN|apply below_drew1|refine below_set ?_ GE306.out)|exact HB.out))):w.heap.size ≤ gb307));have n5_:=Am10_ ((by rw [hg];exact Nat.ne_of_lt (blk_lt (g:=gb306) (o:=.cells #[.int .i64 1,.int .i64 2,.int .i64 (wrap64 (1 + t304)),.int .i64 t305] 26 (0,0)) (by (with_reducible repeat (first|refine blk_drewN ?_ _|refine blk_drew ?_|refine blk_alloc ?_ _));refine blk_put (cs:=#[.int .i64 1,.int .i64 2,.int .i64 (wrap64 (1 + t304)),.int .i64 0]) ?_ 3 _ rfl;(with_reducible repeat (first|refine blk_drewN ?_ _|refine blk_drew ?_|refine blk_alloc ?_ _));refine blk_put (cs:=#[.int .i64 1,.int .i64 2,.int .i64 0,.int .i64 0]) ?_ 2 _ rfl;(with_reducible repeat (first|refine blk_drewN ?_ _|refine blk_drew ?_|refine blk_alloc ?_ _));refine blk_put (cs:=#[.int .i64 1,.int .i64 0,.int .i64 0,.int .i64 0]) ?_ 1 _ rfl;(with_reducible repeat (first|refine blk_drewN ?_ _|refine blk_drew ?_|refine blk_alloc ?_ _));refine blk_put (cs:=#[.int .i64 0,.int .i64 0,.int .i64 0,.int .i64 0]) ?_ 0 _ rfl;(with_reducible repeat (first|refine blk_drewN ?_ _|refine blk_drew ?_|refine blk_alloc ?_ _));exact BK306.out)):gb306 ≠ gb307));have n6_:=Am10_ ((by rw [hg];exact Nat.ne_of_gt (blk_lt (g:=gb306) (o:=.cells #[.int .i64 1,.int .i64 2,.int .i64 (wrap64 (1 + t304)),.int .i64 t305] 26 (0,0)) (by (with_reducible repeat (first|refine blk_drewN ?_ _|refine blk_drew ?_|refine blk_alloc ?_ _));refine blk_put (cs:=#[.int .i64 1,.int .i64 2,.int .i64 (wrap64 (1 + t304)),.int .i64 0]) ?_ 3 _ rfl;(with_reducible repeat (first|refine blk_drewN ?_ _|refine blk_drew ?_|refine blk_alloc ?_ _));refine blk_put (cs:=#[.int .i64 1,.int .i64 2,.int .i64 0,.int .i64 0]) ?_ 2 _ rfl;(with_reducible repeat (first|refine blk_drewN ?_ _|refine blk_drew ?_|refine blk_alloc ?_ _));refine blk_put (cs:=#[.int .i64 1,.int .i64 0,.int .i64 0,.int .i64 0]) ?_ 1 _ rfl;(with_reducible repeat (first|refine blk_drewN ?_ _|refine blk_drew ?_|refine blk_alloc ?_ _));refine blk_put (cs:=#[.int .i64 0,.int .i64 0,.int .i64 0,.int .i64 0]) ?_ 0 _ rfl;(with_reducible repeat (first|refine blk_drewN ?_ _|refine blk_drew ?_|refine blk_alloc ?_ _));exact BK306.out)):gb307 ≠ gb306));clear BK306;clear HB;have BK306:=n0_;have HB:=n1_;have BK307:=n2_;have GW307:=n3_;have GE307:=n4_;have NB306_307:=n5_;have NB307_306:=n6_;clear n0_ n1_ n2_ n3_ n4_ n5_ n6_;clear hb hbox hg;have hnb13:=NB307_306.out;have hnc13:=NB306_307.out;have hcz14_0:w12.cell? ⟨gb307,0,none⟩=some (.bool false):=q_ BK307 0 rfl;have hcz14_1:w12.cell? ⟨gb307,1,none⟩=some (.string (⟨#[]⟩:ByteArray)):=q_ BK307 1 rfl;have hcz14_2:w12.cell? ⟨gb307,2,none⟩=some (.int .i64 0):=q_ BK307 2 rfl;have hfz14_0:=blk_frozen BK307.out 0;have hfz14_1:=blk_frozen BK307.out 1;have hfz14_2:=blk_frozen BK307.out 2))
  have n0_:Aside0 ((((w12.setCell ⟨gb307,0,none⟩ (.bool true)).setCell ⟨gb307,1,none⟩ (.string (⟨#[119,119,119,46,98,97,110,107,46,99,111,109]⟩:ByteArray))).setCell ⟨gb307,2,none⟩ (.int .i64 443)).heap[gb306]?=some (.cells #[.int .i64 1,.int .i64 2,.int .i64 (wrap64 (1 + t304)),.int .i64 t305] 26 (0,0))):=⟨by (with_reducible repeat (first|refine blk_drewN ?_ _|refine blk_drew ?_|refine blk_alloc ?_ _));refine blk_far ?_ NB306_307.out _;(with_reducible repeat (first|refine blk_drewN ?_ _|refine blk_drew ?_|refine blk_alloc ?_ _));refine blk_far ?_ NB306_307.out _;(with_reducible repeat (first|refine blk_drewN ?_ _|refine blk_drew ?_|refine blk_alloc ?_ _));refine blk_far ?_ NB306_307.out _;(with_reducible repeat (first|refine blk_drewN ?_ _|refine blk_drew ?_|refine blk_alloc ?_ _));exact BK306.out⟩;have n1_:Aside0 ((((w12.setCell ⟨gb307,0,none⟩ (.bool true)).setCell ⟨gb307,1,none⟩ (.string (⟨#[119,119,119,46,98,97,110,107,46,99,111,109]⟩:ByteArray))).setCell ⟨gb307,2,none⟩ (.int .i64 443)).heap[gb307]?=some (.cells #[.bool true,.string (⟨#[119,119,119,46,98,97,110,107,46,99,111,109]⟩:ByteArray),.int .i64 443] 28 (0,0))):=⟨by (with_reducible repeat (first|refine blk_drewN ?_ _|refine blk_drew ?_|refine blk_alloc ?_ _));refine blk_put (cs:=#[.bool true,.string (⟨#[119,119,119,46,98,97,110,107,46,99,111,109]⟩:ByteArray),.int .i64 0]) ?_ 2 _ rfl;(with_reducible repeat (first|refine blk_drewN ?_ _|refine blk_drew ?_|refine blk_alloc ?_ _));refine blk_put (cs:=#[.bool true,.string (⟨#[]⟩:ByteArray),.int .i64 0]) ?_ 1 _ rfl;(with_reducible repeat (first|refine blk_drewN ?_ _|refine blk_drew ?_|refine blk_alloc ?_ _));refine blk_put (cs:=#[.bool false,.string (⟨#[]⟩:ByteArray),.int .i64 0]) ?_ 0 _ rfl;(with_reducible repeat (first|refine blk_drewN ?_ _|refine blk_drew ?_|refine blk_alloc ?_ _));exact BK307.out⟩;have n2_:Aside0 (Below w.heap.size w (((w12.setCell ⟨gb307,0,none⟩ (.bool true)).setCell ⟨gb307,1,none⟩ (.string (⟨#[119,119,119,46,98,97,110,107,46,99,111,109]⟩:ByteArray))).setCell ⟨gb307,2,none⟩ (.int .i64 443))):=⟨by repeat (first|(with_reducible first|exact HB.out|apply below_alloc|apply pw_below_drewN|apply below_drew1|refine below_set ?_ GE306.out|refine below_set ?_ GE307.out)|exact HB.out)⟩;(try clear BK306);(try clear BK307);(try clear HB);generalize (((w12.setCell ⟨gb307,0,none⟩ (.bool true)).setCell ⟨gb307,1,none⟩ (.string (⟨#[119,119,119,46,98,97,110,107,46,99,111,109]⟩:ByteArray))).setCell ⟨gb307,2,none⟩ (.int .i64 443))=w15 at n0_ n1_ n2_ ⊢;have BK306:=n0_;have BK307:=n1_;have HB:=n2_;clear n0_ n1_ n2_;replace BK306:=Am10_ (blk_drew BK306.out);replace BK307:=Am10_ (blk_drew BK307.out);replace HB:=Am10_ (below_drew1 HB.out);refine start_ (n:=14) (S:=fun w' => w'.cell? ⟨gb306,0,none⟩=some (.int .i64 1)∧w'.cell? ⟨gb306,1,none⟩=some (.int .i64 2)∧w'.cell? ⟨gb306,2,none⟩=some (.int .i64 (wrap64 (1 + t304)))∧w'.cell? ⟨gb306,3,none⟩=some (.int .i64 t305)∧w'.cell? ⟨gb307,0,none⟩=some (.bool true)∧w'.cell? ⟨gb307,1,none⟩=some (.string (⟨#[119,119,119,46,98,97,110,107,46,99,111,109]⟩:ByteArray))∧w'.cell? ⟨gb307,2,none⟩=some (.int .i64 443)) (ds:=[]) #[false,false,false,false,false,false,false,false,false,false,false,false,false,false] (by kernel_rfl) rfl rfl ⟨q_ BK306 0 rfl,q_ BK306 1 rfl,q_ BK306 2 rfl,q_ BK306 3 rfl,q_ BK307 0 rfl,q_ BK307 1 rfl,q_ BK307 2 rfl⟩ (fun hHeld => ?_);refine with_tabW laws_FnAssertions.tab5 laws_FnAssertions.bits5 (fun HT_ HW_ => ?_);generalize w15.drew=w16 at BK306 BK307 HB hHeld ⊢;refine pure_ (i:=2) (N:=some 24) (v:=?_) (a':=?_) #[false,false,true,false,false,false,false,false,false,false,false,false,false,false] rfl rfl (any_of HT_.out (by kernel_rfl)) (fun _ _ _ h => h) (Or.inl ⟨by rfl,?_⟩) ?_ ?_;rotate_left
  ·intro w'
   go_simp
   with_reducible rfl
  rotate_left
  ·simp only [Act.put,Sa_,Sb_,Sc_,i64_w,i32_w]
   rfl
  refine take_ (i:=0) (N:=some 22) (v:=?_) (a':=?_) #[true,false,true,false,false,false,false,false,false,false,false,false,false,false] rfl rfl (take_ofW HT_.out HW_.out (by kernel_rfl)) (fun _ _ _ h => h) (Or.inl ⟨by rfl,?_⟩) hHeld ?_ ?_;rotate_left
  ·rintro w' ⟨s0,s1,s2,s3,s4,s5,s6⟩
   go_simp
   with_reducible rfl
  rotate_left
  ·simp only [Act.put,Sa_,Sb_,Sc_,i64_w,i32_w]
   rfl
  refine take_ (i:=1) (N:=some 23) (v:=?_) (a':=?_) #[true,true,true,false,false,false,false,false,false,false,false,false,false,false] rfl rfl (take_ofW HT_.out HW_.out (by kernel_rfl)) (fun _ _ _ h => h) (Or.inl ⟨by rfl,?_⟩) hHeld ?_ ?_;rotate_left
  ·rintro w' ⟨s0,s1,s2,s3,s4,s5,s6⟩
   go_simp
   with_reducible rfl
  rotate_left
  ·simp only [Act.put,Sa_,Sb_,Sc_,i64_w,i32_w]
   rfl
  refine join_ (σ:=Nat × Nat) 3 M0_ (fun s_ => [(25,.int .i64 t308),(26,.tuple #[.agg #[.int .i64 t309,.int .i64 t310,.int .i64 t311,.int .i64 t312],.agg #[.string t313,.string t314,.int .i64 t315,.int .i64 t316,.bool t317,.int .i64 t318,.int .i64 t319],.bool t320]),(5,.pointer (some ⟨s_.1,0,none⟩)),(6,.pointer (some ⟨s_.2,0,none⟩)),(21,.tuple #[.agg #[.int .i64 t309,.int .i64 t310,.int .i64 t311,.int .i64 t312],.agg #[.string t313,.string t314,.int .i64 t315,.int .i64 t316,.bool t317,.int .i64 t318,.int .i64 t319],.bool t320]),(27,.agg #[.int .i64 t309,.int .i64 t310,.int .i64 t311,.int .i64 t312]),(28,.agg #[.string t313,.string t314,.int .i64 t315,.int .i64 t316,.bool t317,.int .i64 t318,.int .i64 t319]),(29,.bool t320)]) (fun s_ w' => (w'.cell? ⟨gb306,0,none⟩=some (.int .i64 1)∧w'.cell? ⟨gb306,1,none⟩=some (.int .i64 2)∧w'.cell? ⟨gb306,2,none⟩=some (.int .i64 (wrap64 (1 + t304)))∧w'.cell? ⟨gb306,3,none⟩=some (.int .i64 t305)∧w'.cell? ⟨gb307,0,none⟩=some (.bool true)∧w'.cell? ⟨gb307,1,none⟩=some (.string (⟨#[119,119,119,46,98,97,110,107,46,99,111,109]⟩:ByteArray))∧w'.cell? ⟨gb307,2,none⟩=some (.int .i64 443))∧(w'.heap[gb306]?=some (.cells #[.int .i64 1,.int .i64 2,.int .i64 (wrap64 (1 + t304)),.int .i64 t305] 26 (0,0)))∧(w'.heap[gb307]?=some (.cells #[.bool true,.string (⟨#[119,119,119,46,98,97,110,107,46,99,111,109]⟩:ByteArray),.int .i64 443] 28 (0,0)))∧(w'.heap[s_.1]?=some (.cells #[.int .i64 0,.int .i64 0,.int .i64 0,.int .i64 0] 26 (0,0)))∧(w'.heap[s_.2]?=some (.cells #[.string (⟨#[]⟩:ByteArray),.string (⟨#[]⟩:ByteArray),.int .i64 0,.int .i64 0,.bool false,.int .i64 0,.int .i64 0] 30 (0,0)))∧(w.heap.size ≤ s_.1)∧(w.heap.size ≤ s_.1)∧(gb306 ≠ s_.1)∧(s_.1 ≠ gb306)∧(gb307 ≠ s_.1)∧(s_.1 ≠ gb307)∧(s_.2 ≠ s_.1)∧(s_.1 ≠ s_.2)∧(w.heap.size ≤ s_.2)∧(w.heap.size ≤ s_.2)∧(gb306 ≠ s_.2)∧(s_.2 ≠ gb306)∧(gb307 ≠ s_.2)∧(s_.2 ≠ gb307)∧(Below w.heap.size w w')) ?_ ?_;rotate_left
  ·intro hJ3_4_9_10;refine join_ (σ:=Nat) 4 M1_ (fun s_ => [(25,.int .i64 t308),(26,.tuple #[.agg #[.int .i64 t309,.int .i64 t310,.int .i64 t311,.int .i64 t312],.agg #[.string t313,.string t314,.int .i64 t315,.int .i64 t316,.bool t317,.int .i64 t318,.int .i64 t319],.bool t320]),(5,.pointer (some ⟨s_,0,none⟩)),(21,.tuple #[.agg #[.int .i64 t309,.int .i64 t310,.int .i64 t311,.int .i64 t312],.agg #[.string t313,.string t314,.int .i64 t315,.int .i64 t316,.bool t317,.int .i64 t318,.int .i64 t319],.bool t320]),(27,.agg #[.int .i64 t309,.int .i64 t310,.int .i64 t311,.int .i64 t312]),(28,.agg #[.string t313,.string t314,.int .i64 t315,.int .i64 t316,.bool t317,.int .i64 t318,.int .i64 t319]),(29,.bool t320)]) (fun s_ w' => (w'.cell? ⟨gb306,0,none⟩=some (.int .i64 1)∧w'.cell? ⟨gb306,1,none⟩=some (.int .i64 2)∧w'.cell? ⟨gb306,2,none⟩=some (.int .i64 (wrap64 (1 + t304)))∧w'.cell? ⟨gb306,3,none⟩=some (.int .i64 t305)∧w'.cell? ⟨gb307,0,none⟩=some (.bool true)∧w'.cell? ⟨gb307,1,none⟩=some (.string (⟨#[119,119,119,46,98,97,110,107,46,99,111,109]⟩:ByteArray))∧w'.cell? ⟨gb307,2,none⟩=some (.int .i64 443))∧(w'.heap[gb306]?=some (.cells #[.int .i64 1,.int .i64 2,.int .i64 (wrap64 (1 + t304)),.int .i64 t305] 26 (0,0)))∧(w'.heap[gb307]?=some (.cells #[.bool true,.string (⟨#[119,119,119,46,98,97,110,107,46,99,111,109]⟩:ByteArray),.int .i64 443] 28 (0,0)))∧(w'.heap[s_]?=some (.cells #[.int .i64 0,.int .i64 0,.int .i64 0,.int .i64 0] 26 (0,0)))∧(w.heap.size ≤ s_)∧(w.heap.size ≤ s_)∧(gb306 ≠ s_)∧(s_ ≠ gb306)∧(gb307 ≠ s_)∧(s_ ≠ gb307)∧(Below w.heap.size w w')) ?_ ?_;rotate_left
   ·intro hJ3_4_9;refine join_ (σ:=Nat) 4 M2_ (fun s_ => [(25,.int .i64 t308),(26,.tuple #[.agg #[.int .i64 t309,.int .i64 t310,.int .i64 t311,.int .i64 t312],.agg #[.string t313,.string t314,.int .i64 t315,.int .i64 t316,.bool t317,.int .i64 t318,.int .i64 t319],.bool t320]),(6,.pointer (some ⟨s_,0,none⟩)),(21,.tuple #[.agg #[.int .i64 t309,.int .i64 t310,.int .i64 t311,.int .i64 t312],.agg #[.string t313,.string t314,.int .i64 t315,.int .i64 t316,.bool t317,.int .i64 t318,.int .i64 t319],.bool t320]),(27,.agg #[.int .i64 t309,.int .i64 t310,.int .i64 t311,.int .i64 t312]),(28,.agg #[.string t313,.string t314,.int .i64 t315,.int .i64 t316,.bool t317,.int .i64 t318,.int .i64 t319]),(29,.bool t320)]) (fun s_ w' => (w'.cell? ⟨gb306,0,none⟩=some (.int .i64 1)∧w'.cell? ⟨gb306,1,none⟩=some (.int .i64 2)∧w'.cell? ⟨gb306,2,none⟩=some (.int .i64 (wrap64 (1 + t304)))∧w'.cell? ⟨gb306,3,none⟩=some (.int .i64 t305)∧w'.cell? ⟨gb307,0,none⟩=some (.bool true)∧w'.cell? ⟨gb307,1,none⟩=some (.string (⟨#[119,119,119,46,98,97,110,107,46,99,111,109]⟩:ByteArray))∧w'.cell? ⟨gb307,2,none⟩=some (.int .i64 443))∧(w'.heap[gb306]?=some (.cells #[.int .i64 1,.int .i64 2,.int .i64 (wrap64 (1 + t304)),.int .i64 t305] 26 (0,0)))∧(w'.heap[gb307]?=some (.cells #[.bool true,.string (⟨#[119,119,119,46,98,97,110,107,46,99,111,109]⟩:ByteArray),.int .i64 443] 28 (0,0)))∧(w'.heap[s_]?=some (.cells #[.string (⟨#[]⟩:ByteArray),.string (⟨#[]⟩:ByteArray),.int .i64 0,.int .i64 0,.bool false,.int .i64 0,.int .i64 0] 30 (0,0)))∧(w.heap.size ≤ s_)∧(w.heap.size ≤ s_)∧(gb306 ≠ s_)∧(s_ ≠ gb306)∧(gb307 ≠ s_)∧(s_ ≠ gb307)∧(Below w.heap.size w w')) ?_ ?_;rotate_left
    ·intro hJ3_4_10;refine join_ (σ:=Nat × Nat) 8 M3_ (fun s_ => [(25,.int .i64 t308),(5,.pointer (some ⟨s_.1,0,none⟩)),(6,.pointer (some ⟨s_.2,0,none⟩))]) (fun s_ w' => (w'.cell? ⟨gb306,0,none⟩=some (.int .i64 1)∧w'.cell? ⟨gb306,1,none⟩=some (.int .i64 2)∧w'.cell? ⟨gb306,2,none⟩=some (.int .i64 (wrap64 (1 + t304)))∧w'.cell? ⟨gb306,3,none⟩=some (.int .i64 t305)∧w'.cell? ⟨gb307,0,none⟩=some (.bool true)∧w'.cell? ⟨gb307,1,none⟩=some (.string (⟨#[119,119,119,46,98,97,110,107,46,99,111,109]⟩:ByteArray))∧w'.cell? ⟨gb307,2,none⟩=some (.int .i64 443))∧(w'.heap[gb306]?=some (.cells #[.int .i64 1,.int .i64 2,.int .i64 (wrap64 (1 + t304)),.int .i64 t305] 26 (0,0)))∧(w'.heap[gb307]?=some (.cells #[.bool true,.string (⟨#[119,119,119,46,98,97,110,107,46,99,111,109]⟩:ByteArray),.int .i64 443] 28 (0,0)))∧(w'.heap[s_.1]?=some (.cells #[.int .i64 0,.int .i64 0,.int .i64 0,.int .i64 0] 26 (0,0)))∧(w'.heap[s_.2]?=some (.cells #[.string (⟨#[]⟩:ByteArray),.string (⟨#[]⟩:ByteArray),.int .i64 0,.int .i64 0,.bool false,.int .i64 0,.int .i64 0] 30 (0,0)))∧(w.heap.size ≤ s_.1)∧(w.heap.size ≤ s_.1)∧(gb306 ≠ s_.1)∧(s_.1 ≠ gb306)∧(gb307 ≠ s_.1)∧(s_.1 ≠ gb307)∧(s_.2 ≠ s_.1)∧(s_.1 ≠ s_.2)∧(w.heap.size ≤ s_.2)∧(w.heap.size ≤ s_.2)∧(gb306 ≠ s_.2)∧(s_.2 ≠ gb306)∧(gb307 ≠ s_.2)∧(s_.2 ≠ gb307)∧(Below w.heap.size w w')) ?_ ?_;rotate_left
     ·intro hJ3_9_10;refine join_ (σ:=Unit) 5 M4_ (fun s_ => [(25,.int .i64 t308),(26,.tuple #[.agg #[.int .i64 t309,.int .i64 t310,.int .i64 t311,.int .i64 t312],.agg #[.string t313,.string t314,.int .i64 t315,.int .i64 t316,.bool t317,.int .i64 t318,.int .i64 t319],.bool t320]),(21,.tuple #[.agg #[.int .i64 t309,.int .i64 t310,.int .i64 t311,.int .i64 t312],.agg #[.string t313,.string t314,.int .i64 t315,.int .i64 t316,.bool t317,.int .i64 t318,.int .i64 t319],.bool t320]),(27,.agg #[.int .i64 t309,.int .i64 t310,.int .i64 t311,.int .i64 t312]),(28,.agg #[.string t313,.string t314,.int .i64 t315,.int .i64 t316,.bool t317,.int .i64 t318,.int .i64 t319]),(29,.bool t320)]) (fun s_ w' => (w'.cell? ⟨gb306,0,none⟩=some (.int .i64 1)∧w'.cell? ⟨gb306,1,none⟩=some (.int .i64 2)∧w'.cell? ⟨gb306,2,none⟩=some (.int .i64 (wrap64 (1 + t304)))∧w'.cell? ⟨gb306,3,none⟩=some (.int .i64 t305)∧w'.cell? ⟨gb307,0,none⟩=some (.bool true)∧w'.cell? ⟨gb307,1,none⟩=some (.string (⟨#[119,119,119,46,98,97,110,107,46,99,111,109]⟩:ByteArray))∧w'.cell? ⟨gb307,2,none⟩=some (.int .i64 443))∧(w'.heap[gb306]?=some (.cells #[.int .i64 1,.int .i64 2,.int .i64 (wrap64 (1 + t304)),.int .i64 t305] 26 (0,0)))∧(w'.heap[gb307]?=some (.cells #[.bool true,.string (⟨#[119,119,119,46,98,97,110,107,46,99,111,109]⟩:ByteArray),.int .i64 443] 28 (0,0)))∧(Below w.heap.size w w')) ?_ ?_;rotate_left
      ·intro hJ3_4;refine join_ (σ:=Nat) 9 M5_ (fun s_ => [(25,.int .i64 t308),(5,.pointer (some ⟨s_,0,none⟩))]) (fun s_ w' => (w'.cell? ⟨gb306,0,none⟩=some (.int .i64 1)∧w'.cell? ⟨gb306,1,none⟩=some (.int .i64 2)∧w'.cell? ⟨gb306,2,none⟩=some (.int .i64 (wrap64 (1 + t304)))∧w'.cell? ⟨gb306,3,none⟩=some (.int .i64 t305)∧w'.cell? ⟨gb307,0,none⟩=some (.bool true)∧w'.cell? ⟨gb307,1,none⟩=some (.string (⟨#[119,119,119,46,98,97,110,107,46,99,111,109]⟩:ByteArray))∧w'.cell? ⟨gb307,2,none⟩=some (.int .i64 443))∧(w'.heap[gb306]?=some (.cells #[.int .i64 1,.int .i64 2,.int .i64 (wrap64 (1 + t304)),.int .i64 t305] 26 (0,0)))∧(w'.heap[gb307]?=some (.cells #[.bool true,.string (⟨#[119,119,119,46,98,97,110,107,46,99,111,109]⟩:ByteArray),.int .i64 443] 28 (0,0)))∧(w'.heap[s_]?=some (.cells #[.int .i64 0,.int .i64 0,.int .i64 0,.int .i64 0] 26 (0,0)))∧(w.heap.size ≤ s_)∧(w.heap.size ≤ s_)∧(gb306 ≠ s_)∧(s_ ≠ gb306)∧(gb307 ≠ s_)∧(s_ ≠ gb307)∧(Below w.heap.size w w')) ?_ ?_;rotate_left
       ·intro hJ3_9;refine join_ (σ:=Nat) 9 M6_ (fun s_ => [(25,.int .i64 t308),(6,.pointer (some ⟨s_,0,none⟩))]) (fun s_ w' => (w'.cell? ⟨gb306,0,none⟩=some (.int .i64 1)∧w'.cell? ⟨gb306,1,none⟩=some (.int .i64 2)∧w'.cell? ⟨gb306,2,none⟩=some (.int .i64 (wrap64 (1 + t304)))∧w'.cell? ⟨gb306,3,none⟩=some (.int .i64 t305)∧w'.cell? ⟨gb307,0,none⟩=some (.bool true)∧w'.cell? ⟨gb307,1,none⟩=some (.string (⟨#[119,119,119,46,98,97,110,107,46,99,111,109]⟩:ByteArray))∧w'.cell? ⟨gb307,2,none⟩=some (.int .i64 443))∧(w'.heap[gb306]?=some (.cells #[.int .i64 1,.int .i64 2,.int .i64 (wrap64 (1 + t304)),.int .i64 t305] 26 (0,0)))∧(w'.heap[gb307]?=some (.cells #[.bool true,.string (⟨#[119,119,119,46,98,97,110,107,46,99,111,109]⟩:ByteArray),.int .i64 443] 28 (0,0)))∧(w'.heap[s_]?=some (.cells #[.string (⟨#[]⟩:ByteArray),.string (⟨#[]⟩:ByteArray),.int .i64 0,.int .i64 0,.bool false,.int .i64 0,.int .i64 0] 30 (0,0)))∧(w.heap.size ≤ s_)∧(w.heap.size ≤ s_)∧(gb306 ≠ s_)∧(s_ ≠ gb306)∧(gb307 ≠ s_)∧(s_ ≠ gb307)∧(Below w.heap.size w w')) ?_ ?_;rotate_left
        ·intro hJ3_10;refine join_ (σ:=Nat × Nat) 9 M7_ (fun s_ => [(5,.pointer (some ⟨s_.1,0,none⟩)),(6,.pointer (some ⟨s_.2,0,none⟩))]) (fun s_ w' => (w'.cell? ⟨gb306,0,none⟩=some (.int .i64 1)∧w'.cell? ⟨gb306,1,none⟩=some (.int .i64 2)∧w'.cell? ⟨gb306,2,none⟩=some (.int .i64 (wrap64 (1 + t304)))∧w'.cell? ⟨gb306,3,none⟩=some (.int .i64 t305)∧w'.cell? ⟨gb307,0,none⟩=some (.bool true)∧w'.cell? ⟨gb307,1,none⟩=some (.string (⟨#[119,119,119,46,98,97,110,107,46,99,111,109]⟩:ByteArray))∧w'.cell? ⟨gb307,2,none⟩=some (.int .i64 443))∧(w'.heap[gb306]?=some (.cells #[.int .i64 1,.int .i64 2,.int .i64 (wrap64 (1 + t304)),.int .i64 t305] 26 (0,0)))∧(w'.heap[gb307]?=some (.cells #[.bool true,.string (⟨#[119,119,119,46,98,97,110,107,46,99,111,109]⟩:ByteArray),.int .i64 443] 28 (0,0)))∧(w'.heap[s_.1]?=some (.cells #[.int .i64 0,.int .i64 0,.int .i64 0,.int .i64 0] 26 (0,0)))∧(w'.heap[s_.2]?=some (.cells #[.string (⟨#[]⟩:ByteArray),.string (⟨#[]⟩:ByteArray),.int .i64 0,.int .i64 0,.bool false,.int .i64 0,.int .i64 0] 30 (0,0)))∧(w.heap.size ≤ s_.1)∧(w.heap.size ≤ s_.1)∧(gb306 ≠ s_.1)∧(s_.1 ≠ gb306)∧(gb307 ≠ s_.1)∧(s_.1 ≠ gb307)∧(s_.2 ≠ s_.1)∧(s_.1 ≠ s_.2)∧(w.heap.size ≤ s_.2)∧(w.heap.size ≤ s_.2)∧(gb306 ≠ s_.2)∧(s_.2 ≠ gb306)∧(gb307 ≠ s_.2)∧(s_.2 ≠ gb307)∧(Below w.heap.size w w')) ?_ ?_;rotate_left
         ·intro hJ9_10;refine join_ (σ:=Unit) 10 M8_ (fun s_ => [(25,.int .i64 t308)]) (fun s_ w' => (w'.cell? ⟨gb306,0,none⟩=some (.int .i64 1)∧w'.cell? ⟨gb306,1,none⟩=some (.int .i64 2)∧w'.cell? ⟨gb306,2,none⟩=some (.int .i64 (wrap64 (1 + t304)))∧w'.cell? ⟨gb306,3,none⟩=some (.int .i64 t305)∧w'.cell? ⟨gb307,0,none⟩=some (.bool true)∧w'.cell? ⟨gb307,1,none⟩=some (.string (⟨#[119,119,119,46,98,97,110,107,46,99,111,109]⟩:ByteArray))∧w'.cell? ⟨gb307,2,none⟩=some (.int .i64 443))∧(w'.heap[gb306]?=some (.cells #[.int .i64 1,.int .i64 2,.int .i64 (wrap64 (1 + t304)),.int .i64 t305] 26 (0,0)))∧(w'.heap[gb307]?=some (.cells #[.bool true,.string (⟨#[119,119,119,46,98,97,110,107,46,99,111,109]⟩:ByteArray),.int .i64 443] 28 (0,0)))∧(Below w.heap.size w w')) ?_ ?_;rotate_left
          ·intro hJ3;refine join_ (σ:=Nat) 10 M9_ (fun s_ => [(5,.pointer (some ⟨s_,0,none⟩))]) (fun s_ w' => (w'.cell? ⟨gb306,0,none⟩=some (.int .i64 1)∧w'.cell? ⟨gb306,1,none⟩=some (.int .i64 2)∧w'.cell? ⟨gb306,2,none⟩=some (.int .i64 (wrap64 (1 + t304)))∧w'.cell? ⟨gb306,3,none⟩=some (.int .i64 t305)∧w'.cell? ⟨gb307,0,none⟩=some (.bool true)∧w'.cell? ⟨gb307,1,none⟩=some (.string (⟨#[119,119,119,46,98,97,110,107,46,99,111,109]⟩:ByteArray))∧w'.cell? ⟨gb307,2,none⟩=some (.int .i64 443))∧(w'.heap[gb306]?=some (.cells #[.int .i64 1,.int .i64 2,.int .i64 (wrap64 (1 + t304)),.int .i64 t305] 26 (0,0)))∧(w'.heap[gb307]?=some (.cells #[.bool true,.string (⟨#[119,119,119,46,98,97,110,107,46,99,111,109]⟩:ByteArray),.int .i64 443] 28 (0,0)))∧(w'.heap[s_]?=some (.cells #[.int .i64 0,.int .i64 0,.int .i64 0,.int .i64 0] 26 (0,0)))∧(w.heap.size ≤ s_)∧(w.heap.size ≤ s_)∧(gb306 ≠ s_)∧(s_ ≠ gb306)∧(gb307 ≠ s_)∧(s_ ≠ gb307)∧(Below w.heap.size w w')) ?_ ?_;rotate_left
           ·intro hJ9;refine join_ (σ:=Nat) 10 M10_ (fun s_ => [(6,.pointer (some ⟨s_,0,none⟩))]) (fun s_ w' => (w'.cell? ⟨gb306,0,none⟩=some (.int .i64 1)∧w'.cell? ⟨gb306,1,none⟩=some (.int .i64 2)∧w'.cell? ⟨gb306,2,none⟩=some (.int .i64 (wrap64 (1 + t304)))∧w'.cell? ⟨gb306,3,none⟩=some (.int .i64 t305)∧w'.cell? ⟨gb307,0,none⟩=some (.bool true)∧w'.cell? ⟨gb307,1,none⟩=some (.string (⟨#[119,119,119,46,98,97,110,107,46,99,111,109]⟩:ByteArray))∧w'.cell? ⟨gb307,2,none⟩=some (.int .i64 443))∧(w'.heap[gb306]?=some (.cells #[.int .i64 1,.int .i64 2,.int .i64 (wrap64 (1 + t304)),.int .i64 t305] 26 (0,0)))∧(w'.heap[gb307]?=some (.cells #[.bool true,.string (⟨#[119,119,119,46,98,97,110,107,46,99,111,109]⟩:ByteArray),.int .i64 443] 28 (0,0)))∧(w'.heap[s_]?=some (.cells #[.string (⟨#[]⟩:ByteArray),.string (⟨#[]⟩:ByteArray),.int .i64 0,.int .i64 0,.bool false,.int .i64 0,.int .i64 0] 30 (0,0)))∧(w.heap.size ≤ s_)∧(w.heap.size ≤ s_)∧(gb306 ≠ s_)∧(s_ ≠ gb306)∧(gb307 ≠ s_)∧(s_ ≠ gb307)∧(Below w.heap.size w w')) ?_ ?_;rotate_left
            ·intro hJ10;refine three_ (i:=3) (j:=9) (k:=10) (Ni:=some 25) (Nj:=some 5) (Nk:=some 6) M8_ M9_ M10_ rfl rfl rfl rfl rfl rfl (three_of HT_.out (by kernel_rfl)) (by decide) (by decide) (by decide) (fun K hK => ?_) (fun K hK => ?_) (fun K hK => ?_)
             ·skip
              refine goes_ Tryz.func8 (by kernel_rfl) rfl #[.slice A0 l0.length c0,.int .i64 2] (by rfl) rfl rfl (by (try simp only [Sd_,Se_,Sf_]);first|done|rfl|(simp only [Sg_,Sh_];rfl)) ?_;with_reducible refine (laws_at.calls _ _ l0 2 t308 _ ?side1 ?side2 A6.out).mono ?_
              (case side1 => repeat (first|exact (Kd.C_below HR0.out HB.out)|(with_reducible refine Kd.C_alloc ?_ _)|(with_reducible refine Kd.C_drewN ?_ _)|(with_reducible refine Kd.C_drew ?_)))
              (case side2 => exact HC0.out)
              rintro e w' ⟨rfl,⟨nd,rfl⟩⟩;refine ⟨_,rfl,?_⟩;refine hK.out _ _ ⟨q_ BK306 0 rfl,q_ BK306 1 rfl,q_ BK306 2 rfl,q_ BK306 3 rfl,q_ BK307 0 rfl,q_ BK307 1 rfl,q_ BK307 2 rfl⟩ (fun hHeld => ?_);clear hK K;refine norm_ (a':=?_) ?_ ?_;rotate_left
              ·show Act.put _ (some 25) _=_
               simp only [Act.put,Sa_,Sb_,Sc_,i64_w,i32_w]
               rfl
              exact norm_ (by simp only [putAll,Act.put,Sa_,Sb_,Sc_] <;> rfl) (hJ3 () _ ⟨hHeld,(xk_ BK306),(xk_ BK307),(xe_ HB)⟩)
             ·skip
              refine box_step ?hg (N:=5) ?hd (cs:=#[.int .i64 0,.int .i64 0,.int .i64 0,.int .i64 0]) (t:=26) ?hr ?_;(case hd => rfl);(case hg => rfl);(case hr => first|(go_simp;done)|(go_simp;rfl));intro gb321 hg w17 hbox hb;have BK321:=Am10_ (hbox);have GW321:=gw_ hg HB;have GE321:=GW321;have NB306_321:=ne1_ hg BK306;have NB321_306:=ne2_ hg BK306;have NB307_321:=ne1_ hg BK307;have NB321_307:=ne2_ hg BK307;replace BK306:=bb_ BK306 hb;replace BK307:=bb_ BK307 hb;replace HB:=bs_ HB hb;clear hb hbox hg;refine hK.out _ _ ⟨q_ BK306 0 rfl,q_ BK306 1 rfl,q_ BK306 2 rfl,q_ BK306 3 rfl,q_ BK307 0 rfl,q_ BK307 1 rfl,q_ BK307 2 rfl⟩ (fun hHeld => ?_);clear hK K;refine norm_ (a':=?_) ?_ ?_;rotate_left
              ·show Act.put _ (some 5) _=_
               simp only [Act.put,Sa_,Sb_,Sc_,i64_w,i32_w]
               rfl
              exact norm_ (by simp only [putAll,Act.put,Sa_,Sb_,Sc_] <;> rfl) (hJ9 (gb321) _ ⟨hHeld,(xk_ BK306),(xk_ BK307),(xk_ BK321),GW321.out,GE321.out,NB306_321.out,NB321_306.out,NB307_321.out,NB321_307.out,(xe_ HB)⟩)
             ·skip
              refine box_step ?hg (N:=6) ?hd (cs:=#[.string (⟨#[]⟩:ByteArray),.string (⟨#[]⟩:ByteArray),.int .i64 0,.int .i64 0,.bool false,.int .i64 0,.int .i64 0]) (t:=30) ?hr ?_;(case hd => rfl);(case hg => rfl);(case hr => first|(go_simp;done)|(go_simp;rfl));intro gb322 hg w17 hbox hb;have BK322:=Am10_ (hbox);have GW322:=gw_ hg HB;have GE322:=GW322;have NB306_322:=ne1_ hg BK306;have NB322_306:=ne2_ hg BK306;have NB307_322:=ne1_ hg BK307;have NB322_307:=ne2_ hg BK307;replace BK306:=bb_ BK306 hb;replace BK307:=bb_ BK307 hb;replace HB:=bs_ HB hb;clear hb hbox hg;refine hK.out _ _ ⟨q_ BK306 0 rfl,q_ BK306 1 rfl,q_ BK306 2 rfl,q_ BK306 3 rfl,q_ BK307 0 rfl,q_ BK307 1 rfl,q_ BK307 2 rfl⟩ (fun hHeld => ?_);clear hK K;refine norm_ (a':=?_) ?_ ?_;rotate_left
              ·show Act.put _ (some 6) _=_
               simp only [Act.put,Sa_,Sb_,Sc_,i64_w,i32_w]
               rfl
              exact norm_ (by simp only [putAll,Act.put,Sa_,Sb_,Sc_] <;> rfl) (hJ10 (gb322) _ ⟨hHeld,(xk_ BK306),(xk_ BK307),(xk_ BK322),GW322.out,GE322.out,NB306_322.out,NB322_306.out,NB307_322.out,NB322_307.out,(xe_ HB)⟩)
            ·skip
             rintro gb322 w18 ⟨hS_,h0_,h1_,h2_,h3_,h4_,h5_,h6_,h7_,h8_,h9_⟩;have n0_:Aside0 (w18.heap[gb306]?=some (.cells #[.int .i64 1,.int .i64 2,.int .i64 (wrap64 (1 + t304)),.int .i64 t305] 26 (0,0))):=⟨h0_⟩;have n1_:Aside0 (w18.heap[gb307]?=some (.cells #[.bool true,.string (⟨#[119,119,119,46,98,97,110,107,46,99,111,109]⟩:ByteArray),.int .i64 443] 28 (0,0))):=⟨h1_⟩;have n2_:Aside0 (w18.heap[gb322]?=some (.cells #[.string (⟨#[]⟩:ByteArray),.string (⟨#[]⟩:ByteArray),.int .i64 0,.int .i64 0,.bool false,.int .i64 0,.int .i64 0] 30 (0,0))):=⟨h2_⟩;have n3_:Aside0 (w.heap.size ≤ gb322):=⟨h3_⟩;have n4_:Aside0 (w.heap.size ≤ gb322):=⟨h4_⟩;have n5_:Aside0 (gb306 ≠ gb322):=⟨h5_⟩;have n6_:Aside0 (gb322 ≠ gb306):=⟨h6_⟩;have n7_:Aside0 (gb307 ≠ gb322):=⟨h7_⟩;have n8_:Aside0 (gb322 ≠ gb307):=⟨h8_⟩;have n9_:Aside0 (Below w.heap.size w w18):=⟨h9_⟩;clear BK306;clear BK307;clear HB;clear h0_ h1_ h2_ h3_ h4_ h5_ h6_ h7_ h8_ h9_;have BK306:=n0_;have BK307:=n1_;have BK322:=n2_;have GW322:=n3_;have GE322:=n4_;have NB306_322:=n5_;have NB322_306:=n6_;have NB307_322:=n7_;have NB322_307:=n8_;have HB:=n9_;clear n0_ n1_ n2_ n3_ n4_ n5_ n6_ n7_ n8_ n9_;have hHeld:w18.cell? ⟨gb306,0,none⟩=some (.int .i64 1)∧w18.cell? ⟨gb306,1,none⟩=some (.int .i64 2)∧w18.cell? ⟨gb306,2,none⟩=some (.int .i64 (wrap64 (1 + t304)))∧w18.cell? ⟨gb306,3,none⟩=some (.int .i64 t305)∧w18.cell? ⟨gb307,0,none⟩=some (.bool true)∧w18.cell? ⟨gb307,1,none⟩=some (.string (⟨#[119,119,119,46,98,97,110,107,46,99,111,109]⟩:ByteArray))∧w18.cell? ⟨gb307,2,none⟩=some (.int .i64 443):=hS_;refine norm_ (a':=?_) ?_ ?_;rotate_left
             ·simp only [putAll,Act.put,Sa_,Sb_,Sc_]
              rfl
             refine two_ (i:=3) (j:=9) (Ni:=some 25) (Nj:=some 5) M6_ M7_ rfl rfl rfl rfl (two_of HT_.out (by kernel_rfl)) (by decide) (by decide) (fun K hK => ?_) (fun K hK => ?_)
             ·skip
              refine goes_ Tryz.func8 (by kernel_rfl) rfl #[.slice A0 l0.length c0,.int .i64 2] (by rfl) rfl rfl (by (try simp only [Sd_,Se_,Sf_]);first|done|rfl|(simp only [Sg_,Sh_];rfl)) ?_;with_reducible refine (laws_at.calls _ _ l0 2 t308 _ ?side1 ?side2 A6.out).mono ?_
              (case side1 => repeat (first|exact (Kd.C_below HR0.out HB.out)|(with_reducible refine Kd.C_alloc ?_ _)|(with_reducible refine Kd.C_drewN ?_ _)|(with_reducible refine Kd.C_drew ?_)))
              (case side2 => exact HC0.out)
              rintro e w' ⟨rfl,⟨nd,rfl⟩⟩;refine ⟨_,rfl,?_⟩;refine hK.out _ _ ⟨q_ BK306 0 rfl,q_ BK306 1 rfl,q_ BK306 2 rfl,q_ BK306 3 rfl,q_ BK307 0 rfl,q_ BK307 1 rfl,q_ BK307 2 rfl⟩ (fun hHeld => ?_);clear hK K;refine norm_ (a':=?_) ?_ ?_;rotate_left
              ·show Act.put _ (some 25) _=_
               simp only [Act.put,Sa_,Sb_,Sc_,i64_w,i32_w]
               rfl
              exact norm_ (by simp only [putAll,Act.put,Sa_,Sb_,Sc_] <;> rfl) (hJ3_10 (gb322) _ ⟨hHeld,(xk_ BK306),(xk_ BK307),(xk_ BK322),GW322.out,GE322.out,NB306_322.out,NB322_306.out,NB307_322.out,NB322_307.out,(xe_ HB)⟩)
             ·skip
              refine box_step ?hg (N:=5) ?hd (cs:=#[.int .i64 0,.int .i64 0,.int .i64 0,.int .i64 0]) (t:=26) ?hr ?_;(case hd => rfl);(case hg => rfl);(case hr => first|(go_simp;done)|(go_simp;rfl));intro gb321 hg w19 hbox hb;have BK321:=Am10_ (hbox);have GW321:=gw_ hg HB;have GE321:=GW321;have NB306_321:=ne1_ hg BK306;have NB321_306:=ne2_ hg BK306;have NB307_321:=ne1_ hg BK307;have NB321_307:=ne2_ hg BK307;have NB322_321:=ne1_ hg BK322;have NB321_322:=ne2_ hg BK322;replace BK306:=bb_ BK306 hb;replace BK307:=bb_ BK307 hb;replace BK322:=bb_ BK322 hb;replace HB:=bs_ HB hb;clear hb hbox hg;refine hK.out _ _ ⟨q_ BK306 0 rfl,q_ BK306 1 rfl,q_ BK306 2 rfl,q_ BK306 3 rfl,q_ BK307 0 rfl,q_ BK307 1 rfl,q_ BK307 2 rfl⟩ (fun hHeld => ?_);clear hK K;refine norm_ (a':=?_) ?_ ?_;rotate_left
              ·show Act.put _ (some 5) _=_
               simp only [Act.put,Sa_,Sb_,Sc_,i64_w,i32_w]
               rfl
              exact norm_ (by simp only [putAll,Act.put,Sa_,Sb_,Sc_] <;> rfl) (hJ9_10 (gb321,gb322) _ ⟨hHeld,(xk_ BK306),(xk_ BK307),(xk_ BK321),(xk_ BK322),GW321.out,GE321.out,NB306_321.out,NB321_306.out,NB307_321.out,NB321_307.out,NB322_321.out,NB321_322.out,GW322.out,GE322.out,NB306_322.out,NB322_306.out,NB307_322.out,NB322_307.out,(xe_ HB)⟩)
           ·skip
            rintro gb321 w18 ⟨hS_,h0_,h1_,h2_,h3_,h4_,h5_,h6_,h7_,h8_,h9_⟩;have n0_:Aside0 (w18.heap[gb306]?=some (.cells #[.int .i64 1,.int .i64 2,.int .i64 (wrap64 (1 + t304)),.int .i64 t305] 26 (0,0))):=⟨h0_⟩;have n1_:Aside0 (w18.heap[gb307]?=some (.cells #[.bool true,.string (⟨#[119,119,119,46,98,97,110,107,46,99,111,109]⟩:ByteArray),.int .i64 443] 28 (0,0))):=⟨h1_⟩;have n2_:Aside0 (w18.heap[gb321]?=some (.cells #[.int .i64 0,.int .i64 0,.int .i64 0,.int .i64 0] 26 (0,0))):=⟨h2_⟩;have n3_:Aside0 (w.heap.size ≤ gb321):=⟨h3_⟩;have n4_:Aside0 (w.heap.size ≤ gb321):=⟨h4_⟩;have n5_:Aside0 (gb306 ≠ gb321):=⟨h5_⟩;have n6_:Aside0 (gb321 ≠ gb306):=⟨h6_⟩;have n7_:Aside0 (gb307 ≠ gb321):=⟨h7_⟩;have n8_:Aside0 (gb321 ≠ gb307):=⟨h8_⟩;have n9_:Aside0 (Below w.heap.size w w18):=⟨h9_⟩;clear BK306;clear BK307;clear HB;clear h0_ h1_ h2_ h3_ h4_ h5_ h6_ h7_ h8_ h9_;have BK306:=n0_;have BK307:=n1_;have BK321:=n2_;have GW321:=n3_;have GE321:=n4_;have NB306_321:=n5_;have NB321_306:=n6_;have NB307_321:=n7_;have NB321_307:=n8_;have HB:=n9_;clear n0_ n1_ n2_ n3_ n4_ n5_ n6_ n7_ n8_ n9_;have hHeld:w18.cell? ⟨gb306,0,none⟩=some (.int .i64 1)∧w18.cell? ⟨gb306,1,none⟩=some (.int .i64 2)∧w18.cell? ⟨gb306,2,none⟩=some (.int .i64 (wrap64 (1 + t304)))∧w18.cell? ⟨gb306,3,none⟩=some (.int .i64 t305)∧w18.cell? ⟨gb307,0,none⟩=some (.bool true)∧w18.cell? ⟨gb307,1,none⟩=some (.string (⟨#[119,119,119,46,98,97,110,107,46,99,111,109]⟩:ByteArray))∧w18.cell? ⟨gb307,2,none⟩=some (.int .i64 443):=hS_;refine norm_ (a':=?_) ?_ ?_;rotate_left
            ·simp only [putAll,Act.put,Sa_,Sb_,Sc_]
             rfl
            refine two_ (i:=3) (j:=10) (Ni:=some 25) (Nj:=some 6) M5_ M7_ rfl rfl rfl rfl (two_of HT_.out (by kernel_rfl)) (by decide) (by decide) (fun K hK => ?_) (fun K hK => ?_)
            ·skip
             refine goes_ Tryz.func8 (by kernel_rfl) rfl #[.slice A0 l0.length c0,.int .i64 2] (by rfl) rfl rfl (by (try simp only [Sd_,Se_,Sf_]);first|done|rfl|(simp only [Sg_,Sh_];rfl)) ?_;with_reducible refine (laws_at.calls _ _ l0 2 t308 _ ?side1 ?side2 A6.out).mono ?_
             (case side1 => repeat (first|exact (Kd.C_below HR0.out HB.out)|(with_reducible refine Kd.C_alloc ?_ _)|(with_reducible refine Kd.C_drewN ?_ _)|(with_reducible refine Kd.C_drew ?_)))
             (case side2 => exact HC0.out)
             rintro e w' ⟨rfl,⟨nd,rfl⟩⟩;refine ⟨_,rfl,?_⟩;refine hK.out _ _ ⟨q_ BK306 0 rfl,q_ BK306 1 rfl,q_ BK306 2 rfl,q_ BK306 3 rfl,q_ BK307 0 rfl,q_ BK307 1 rfl,q_ BK307 2 rfl⟩ (fun hHeld => ?_);clear hK K;refine norm_ (a':=?_) ?_ ?_;rotate_left
             ·show Act.put _ (some 25) _=_
              simp only [Act.put,Sa_,Sb_,Sc_,i64_w,i32_w]
              rfl
             exact norm_ (by simp only [putAll,Act.put,Sa_,Sb_,Sc_] <;> rfl) (hJ3_9 (gb321) _ ⟨hHeld,(xk_ BK306),(xk_ BK307),(xk_ BK321),GW321.out,GE321.out,NB306_321.out,NB321_306.out,NB307_321.out,NB321_307.out,(xe_ HB)⟩)
            ·skip
             refine box_step ?hg (N:=6) ?hd (cs:=#[.string (⟨#[]⟩:ByteArray),.string (⟨#[]⟩:ByteArray),.int .i64 0,.int .i64 0,.bool false,.int .i64 0,.int .i64 0]) (t:=30) ?hr ?_;(case hd => rfl);(case hg => rfl);(case hr => first|(go_simp;done)|(go_simp;rfl));intro gb322 hg w19 hbox hb;have BK322:=Am10_ (hbox);have GW322:=gw_ hg HB;have GE322:=GW322;have NB306_322:=ne1_ hg BK306;have NB322_306:=ne2_ hg BK306;have NB307_322:=ne1_ hg BK307;have NB322_307:=ne2_ hg BK307;have NB321_322:=ne1_ hg BK321;have NB322_321:=ne2_ hg BK321;replace BK306:=bb_ BK306 hb;replace BK307:=bb_ BK307 hb;replace BK321:=bb_ BK321 hb;replace HB:=bs_ HB hb;clear hb hbox hg;refine hK.out _ _ ⟨q_ BK306 0 rfl,q_ BK306 1 rfl,q_ BK306 2 rfl,q_ BK306 3 rfl,q_ BK307 0 rfl,q_ BK307 1 rfl,q_ BK307 2 rfl⟩ (fun hHeld => ?_);clear hK K;refine norm_ (a':=?_) ?_ ?_;rotate_left
             ·show Act.put _ (some 6) _=_
              simp only [Act.put,Sa_,Sb_,Sc_,i64_w,i32_w]
              rfl
             exact norm_ (by simp only [putAll,Act.put,Sa_,Sb_,Sc_] <;> rfl) (hJ9_10 (gb321,gb322) _ ⟨hHeld,(xk_ BK306),(xk_ BK307),(xk_ BK321),(xk_ BK322),GW321.out,GE321.out,NB306_321.out,NB321_306.out,NB307_321.out,NB321_307.out,NB322_321.out,NB321_322.out,GW322.out,GE322.out,NB306_322.out,NB322_306.out,NB307_322.out,NB322_307.out,(xe_ HB)⟩)
          ·skip
           rintro _ w17 ⟨hS_,h0_,h1_,h2_⟩;have n0_:Aside0 (w17.heap[gb306]?=some (.cells #[.int .i64 1,.int .i64 2,.int .i64 (wrap64 (1 + t304)),.int .i64 t305] 26 (0,0))):=⟨h0_⟩;have n1_:Aside0 (w17.heap[gb307]?=some (.cells #[.bool true,.string (⟨#[119,119,119,46,98,97,110,107,46,99,111,109]⟩:ByteArray),.int .i64 443] 28 (0,0))):=⟨h1_⟩;have n2_:Aside0 (Below w.heap.size w w17):=⟨h2_⟩;clear BK306;clear BK307;clear HB;clear h0_ h1_ h2_;have BK306:=n0_;have BK307:=n1_;have HB:=n2_;clear n0_ n1_ n2_;have hHeld:w17.cell? ⟨gb306,0,none⟩=some (.int .i64 1)∧w17.cell? ⟨gb306,1,none⟩=some (.int .i64 2)∧w17.cell? ⟨gb306,2,none⟩=some (.int .i64 (wrap64 (1 + t304)))∧w17.cell? ⟨gb306,3,none⟩=some (.int .i64 t305)∧w17.cell? ⟨gb307,0,none⟩=some (.bool true)∧w17.cell? ⟨gb307,1,none⟩=some (.string (⟨#[119,119,119,46,98,97,110,107,46,99,111,109]⟩:ByteArray))∧w17.cell? ⟨gb307,2,none⟩=some (.int .i64 443):=hS_;refine norm_ (a':=?_) ?_ ?_;rotate_left
           ·simp only [putAll,Act.put,Sa_,Sb_,Sc_]
            rfl
           refine three_ (i:=4) (j:=9) (k:=10) (Ni:=some 26) (Nj:=some 5) (Nk:=some 6) #[true,true,true,true,true,false,false,false,false,false,false,false,false,false] M5_ M6_ rfl rfl rfl rfl rfl rfl (three_of HT_.out (by kernel_rfl)) (by decide) (by decide) (by decide) (fun K hK => ?_) (fun K hK => ?_) (fun K hK => ?_)
           ·skip
            refine goes_ Tryz.func9 (by kernel_rfl) rfl #[.agg #[.int .i64 1,.int .i64 2,.int .i64 (wrap64 (1 + t304)),.int .i64 t305],.agg #[.bool true,.string (⟨#[119,119,119,46,98,97,110,107,46,99,111,109]⟩:ByteArray),.int .i64 443],.string (⟨#[98,97,110,107,46,99,111,109]⟩:ByteArray),.int .i64 3,.int .i64 t308,.bool true] (by rfl) rfl rfl (by (try simp only [Sd_,Se_,Sf_]);first|done|rfl|(simp only [Sg_,Sh_];rfl)) ?_;with_reducible refine (impl_MakeAssertion.calls (ht_:=Man.tab_on HT.out (xe_ HB)) k 1 2 (wrap64 (1 + t304)) t305 true (⟨#[119,119,119,46,98,97,110,107,46,99,111,109]⟩:ByteArray) 443 (⟨#[98,97,110,107,46,99,111,109]⟩:ByteArray) 3 t308 true t309 t310 t311 t312 t313 t314 t315 t316 t317 t318 t319 t320 _ A7.out).mono ?_;rintro e w18 ⟨rfl,hb⟩;refine ⟨_,rfl,?_⟩;replace BK306:=bb_ BK306 hb;replace BK307:=bb_ BK307 hb;replace HB:=bs_ HB hb;(try clear hb);(try clear hb2);(try clear hk);(try clear hi);refine hK.out _ _ ⟨q_ BK306 0 rfl,q_ BK306 1 rfl,q_ BK306 2 rfl,q_ BK306 3 rfl,q_ BK307 0 rfl,q_ BK307 1 rfl,q_ BK307 2 rfl⟩ (fun hHeld => ?_);clear hK K;refine norm_ (a':=?_) ?_ ?_;rotate_left
            ·show Act.put _ (some 26) _=_
             simp only [Act.put,Sa_,Sb_,Sc_,i64_w,i32_w]
             rfl
            refine pure_ (i:=5) (N:=some 21) (v:=?_) (a':=?_) #[true,true,true,true,true,true,false,false,false,false,false,false,false,false] rfl rfl (any_of HT_.out (by kernel_rfl)) (fun _ _ _ h => h) (Or.inl ⟨by rfl,?_⟩) ?_ ?_;rotate_left
            ·intro w'
             go_simp
             with_reducible rfl
            rotate_left
            ·simp only [Act.put,Sa_,Sb_,Sc_,i64_w,i32_w]
             rfl
            refine pure_ (i:=6) (N:=some 27) (v:=?_) (a':=?_) #[true,true,true,true,true,true,true,false,false,false,false,false,false,false] rfl rfl (any_of HT_.out (by kernel_rfl)) (fun _ _ _ h => h) (Or.inl ⟨by rfl,?_⟩) ?_ ?_;rotate_left
            ·intro w'
             go_simp
             with_reducible rfl
            rotate_left
            ·simp only [Act.put,Sa_,Sb_,Sc_,i64_w,i32_w]
             rfl
            refine pure_ (i:=7) (N:=some 28) (v:=?_) (a':=?_) #[true,true,true,true,true,true,true,true,false,false,false,false,false,false] rfl rfl (any_of HT_.out (by kernel_rfl)) (fun _ _ _ h => h) (Or.inl ⟨by rfl,?_⟩) ?_ ?_;rotate_left
            ·intro w'
             go_simp
             with_reducible rfl
            rotate_left
            ·simp only [Act.put,Sa_,Sb_,Sc_,i64_w,i32_w]
             rfl
            refine pure_ (i:=8) (N:=some 29) (v:=?_) (a':=?_) M4_ rfl rfl (any_of HT_.out (by kernel_rfl)) (fun _ _ _ h => h) (Or.inl ⟨by rfl,?_⟩) ?_ ?_;rotate_left
            ·intro w'
             go_simp
             with_reducible rfl
            rotate_left
            ·simp only [Act.put,Sa_,Sb_,Sc_,i64_w,i32_w]
             rfl
            exact norm_ (by simp only [putAll,Act.put,Sa_,Sb_,Sc_] <;> rfl) (hJ3_4 () _ ⟨hHeld,(xk_ BK306),(xk_ BK307),(xe_ HB)⟩)
           ·skip
            refine box_step ?hg (N:=5) ?hd (cs:=#[.int .i64 0,.int .i64 0,.int .i64 0,.int .i64 0]) (t:=26) ?hr ?_;(case hd => rfl);(case hg => rfl);(case hr => first|(go_simp;done)|(go_simp;rfl));intro gb321 hg w18 hbox hb;have BK321:=Am10_ (hbox);have GW321:=gw_ hg HB;have GE321:=GW321;have NB306_321:=ne1_ hg BK306;have NB321_306:=ne2_ hg BK306;have NB307_321:=ne1_ hg BK307;have NB321_307:=ne2_ hg BK307;replace BK306:=bb_ BK306 hb;replace BK307:=bb_ BK307 hb;replace HB:=bs_ HB hb;clear hb hbox hg;refine hK.out _ _ ⟨q_ BK306 0 rfl,q_ BK306 1 rfl,q_ BK306 2 rfl,q_ BK306 3 rfl,q_ BK307 0 rfl,q_ BK307 1 rfl,q_ BK307 2 rfl⟩ (fun hHeld => ?_);clear hK K;refine norm_ (a':=?_) ?_ ?_;rotate_left
            ·show Act.put _ (some 5) _=_
             simp only [Act.put,Sa_,Sb_,Sc_,i64_w,i32_w]
             rfl
            exact norm_ (by simp only [putAll,Act.put,Sa_,Sb_,Sc_] <;> rfl) (hJ3_9 (gb321) _ ⟨hHeld,(xk_ BK306),(xk_ BK307),(xk_ BK321),GW321.out,GE321.out,NB306_321.out,NB321_306.out,NB307_321.out,NB321_307.out,(xe_ HB)⟩)
           ·skip
            refine box_step ?hg (N:=6) ?hd (cs:=#[.string (⟨#[]⟩:ByteArray),.string (⟨#[]⟩:ByteArray),.int .i64 0,.int .i64 0,.bool false,.int .i64 0,.int .i64 0]) (t:=30) ?hr ?_;(case hd => rfl);(case hg => rfl);(case hr => first|(go_simp;done)|(go_simp;rfl));intro gb322 hg w18 hbox hb;have BK322:=Am10_ (hbox);have GW322:=gw_ hg HB;have GE322:=GW322;have NB306_322:=ne1_ hg BK306;have NB322_306:=ne2_ hg BK306;have NB307_322:=ne1_ hg BK307;have NB322_307:=ne2_ hg BK307;replace BK306:=bb_ BK306 hb;replace BK307:=bb_ BK307 hb;replace HB:=bs_ HB hb;clear hb hbox hg;refine hK.out _ _ ⟨q_ BK306 0 rfl,q_ BK306 1 rfl,q_ BK306 2 rfl,q_ BK306 3 rfl,q_ BK307 0 rfl,q_ BK307 1 rfl,q_ BK307 2 rfl⟩ (fun hHeld => ?_);clear hK K;refine norm_ (a':=?_) ?_ ?_;rotate_left
            ·show Act.put _ (some 6) _=_
             simp only [Act.put,Sa_,Sb_,Sc_,i64_w,i32_w]
             rfl
            exact norm_ (by simp only [putAll,Act.put,Sa_,Sb_,Sc_] <;> rfl) (hJ3_10 (gb322) _ ⟨hHeld,(xk_ BK306),(xk_ BK307),(xk_ BK322),GW322.out,GE322.out,NB306_322.out,NB322_306.out,NB307_322.out,NB322_307.out,(xe_ HB)⟩)
         ·skip
          rintro ⟨gb321,gb322⟩ w19 ⟨hS_,h0_,h1_,h2_,h3_,h4_,h5_,h6_,h7_,h8_,h9_,h10_,h11_,h12_,h13_,h14_,h15_,h16_,h17_,h18_⟩;have n0_:Aside0 (w19.heap[gb306]?=some (.cells #[.int .i64 1,.int .i64 2,.int .i64 (wrap64 (1 + t304)),.int .i64 t305] 26 (0,0))):=⟨h0_⟩;have n1_:Aside0 (w19.heap[gb307]?=some (.cells #[.bool true,.string (⟨#[119,119,119,46,98,97,110,107,46,99,111,109]⟩:ByteArray),.int .i64 443] 28 (0,0))):=⟨h1_⟩;have n2_:Aside0 (w19.heap[gb321]?=some (.cells #[.int .i64 0,.int .i64 0,.int .i64 0,.int .i64 0] 26 (0,0))):=⟨h2_⟩;have n3_:Aside0 (w19.heap[gb322]?=some (.cells #[.string (⟨#[]⟩:ByteArray),.string (⟨#[]⟩:ByteArray),.int .i64 0,.int .i64 0,.bool false,.int .i64 0,.int .i64 0] 30 (0,0))):=⟨h3_⟩;have n4_:Aside0 (w.heap.size ≤ gb321):=⟨h4_⟩;have n5_:Aside0 (w.heap.size ≤ gb321):=⟨h5_⟩;have n6_:Aside0 (gb306 ≠ gb321):=⟨h6_⟩;have n7_:Aside0 (gb321 ≠ gb306):=⟨h7_⟩;have n8_:Aside0 (gb307 ≠ gb321):=⟨h8_⟩;have n9_:Aside0 (gb321 ≠ gb307):=⟨h9_⟩;have n10_:Aside0 (gb322 ≠ gb321):=⟨h10_⟩;have n11_:Aside0 (gb321 ≠ gb322):=⟨h11_⟩;have n12_:Aside0 (w.heap.size ≤ gb322):=⟨h12_⟩;have n13_:Aside0 (w.heap.size ≤ gb322):=⟨h13_⟩;have n14_:Aside0 (gb306 ≠ gb322):=⟨h14_⟩;have n15_:Aside0 (gb322 ≠ gb306):=⟨h15_⟩;have n16_:Aside0 (gb307 ≠ gb322):=⟨h16_⟩;have n17_:Aside0 (gb322 ≠ gb307):=⟨h17_⟩;have n18_:Aside0 (Below w.heap.size w w19):=⟨h18_⟩;clear BK306;clear BK307;clear HB;clear h0_ h1_ h2_ h3_ h4_ h5_ h6_ h7_ h8_ h9_ h10_ h11_ h12_ h13_ h14_ h15_ h16_ h17_ h18_;have BK306:=n0_;have BK307:=n1_;have BK321:=n2_;have BK322:=n3_;have GW321:=n4_;have GE321:=n5_;have NB306_321:=n6_;have NB321_306:=n7_;have NB307_321:=n8_;have NB321_307:=n9_;have NB322_321:=n10_;have NB321_322:=n11_;have GW322:=n12_;have GE322:=n13_;have NB306_322:=n14_;have NB322_306:=n15_;have NB307_322:=n16_;have NB322_307:=n17_;have HB:=n18_;clear n0_ n1_ n2_ n3_ n4_ n5_ n6_ n7_ n8_ n9_ n10_ n11_ n12_ n13_ n14_ n15_ n16_ n17_ n18_;have hHeld:w19.cell? ⟨gb306,0,none⟩=some (.int .i64 1)∧w19.cell? ⟨gb306,1,none⟩=some (.int .i64 2)∧w19.cell? ⟨gb306,2,none⟩=some (.int .i64 (wrap64 (1 + t304)))∧w19.cell? ⟨gb306,3,none⟩=some (.int .i64 t305)∧w19.cell? ⟨gb307,0,none⟩=some (.bool true)∧w19.cell? ⟨gb307,1,none⟩=some (.string (⟨#[119,119,119,46,98,97,110,107,46,99,111,109]⟩:ByteArray))∧w19.cell? ⟨gb307,2,none⟩=some (.int .i64 443):=hS_;refine norm_ (a':=?_) ?_ ?_;rotate_left
          ·simp only [putAll,Act.put,Sa_,Sb_,Sc_]
           rfl
          refine one_ (i:=3) (N:=some 25) M3_ rfl rfl (one_of HT_.out (by kernel_rfl)) (by decide) (fun K hK => ?_);refine goes_ Tryz.func8 (by kernel_rfl) rfl #[.slice A0 l0.length c0,.int .i64 2] (by rfl) rfl rfl (by (try simp only [Sd_,Se_,Sf_]);first|done|rfl|(simp only [Sg_,Sh_];rfl)) ?_;with_reducible refine (laws_at.calls _ _ l0 2 t308 _ ?side1 ?side2 A6.out).mono ?_
          (case side1 => repeat (first|exact (Kd.C_below HR0.out HB.out)|(with_reducible refine Kd.C_alloc ?_ _)|(with_reducible refine Kd.C_drewN ?_ _)|(with_reducible refine Kd.C_drew ?_)))
          (case side2 => exact HC0.out)
          rintro e w' ⟨rfl,⟨nd,rfl⟩⟩;refine ⟨_,rfl,?_⟩;refine hK.out _ _ ⟨q_ BK306 0 rfl,q_ BK306 1 rfl,q_ BK306 2 rfl,q_ BK306 3 rfl,q_ BK307 0 rfl,q_ BK307 1 rfl,q_ BK307 2 rfl⟩ (fun hHeld => ?_);clear hK K;refine norm_ (a':=?_) ?_ ?_;rotate_left
          ·show Act.put _ (some 25) _=_
           simp only [Act.put,Sa_,Sb_,Sc_,i64_w,i32_w]
           rfl
          exact norm_ (by simp only [putAll,Act.put,Sa_,Sb_,Sc_] <;> rfl) (hJ3_9_10 (gb321,gb322) _ ⟨hHeld,(xk_ BK306),(xk_ BK307),(xk_ BK321),(xk_ BK322),GW321.out,GE321.out,NB306_321.out,NB321_306.out,NB307_321.out,NB321_307.out,NB322_321.out,NB321_322.out,GW322.out,GE322.out,NB306_322.out,NB322_306.out,NB307_322.out,NB322_307.out,(xe_ HB)⟩)
        ·skip
         rintro gb322 w18 ⟨hS_,h0_,h1_,h2_,h3_,h4_,h5_,h6_,h7_,h8_,h9_⟩;have n0_:Aside0 (w18.heap[gb306]?=some (.cells #[.int .i64 1,.int .i64 2,.int .i64 (wrap64 (1 + t304)),.int .i64 t305] 26 (0,0))):=⟨h0_⟩;have n1_:Aside0 (w18.heap[gb307]?=some (.cells #[.bool true,.string (⟨#[119,119,119,46,98,97,110,107,46,99,111,109]⟩:ByteArray),.int .i64 443] 28 (0,0))):=⟨h1_⟩;have n2_:Aside0 (w18.heap[gb322]?=some (.cells #[.string (⟨#[]⟩:ByteArray),.string (⟨#[]⟩:ByteArray),.int .i64 0,.int .i64 0,.bool false,.int .i64 0,.int .i64 0] 30 (0,0))):=⟨h2_⟩;have n3_:Aside0 (w.heap.size ≤ gb322):=⟨h3_⟩;have n4_:Aside0 (w.heap.size ≤ gb322):=⟨h4_⟩;have n5_:Aside0 (gb306 ≠ gb322):=⟨h5_⟩;have n6_:Aside0 (gb322 ≠ gb306):=⟨h6_⟩;have n7_:Aside0 (gb307 ≠ gb322):=⟨h7_⟩;have n8_:Aside0 (gb322 ≠ gb307):=⟨h8_⟩;have n9_:Aside0 (Below w.heap.size w w18):=⟨h9_⟩;clear BK306;clear BK307;clear HB;clear h0_ h1_ h2_ h3_ h4_ h5_ h6_ h7_ h8_ h9_;have BK306:=n0_;have BK307:=n1_;have BK322:=n2_;have GW322:=n3_;have GE322:=n4_;have NB306_322:=n5_;have NB322_306:=n6_;have NB307_322:=n7_;have NB322_307:=n8_;have HB:=n9_;clear n0_ n1_ n2_ n3_ n4_ n5_ n6_ n7_ n8_ n9_;have hHeld:w18.cell? ⟨gb306,0,none⟩=some (.int .i64 1)∧w18.cell? ⟨gb306,1,none⟩=some (.int .i64 2)∧w18.cell? ⟨gb306,2,none⟩=some (.int .i64 (wrap64 (1 + t304)))∧w18.cell? ⟨gb306,3,none⟩=some (.int .i64 t305)∧w18.cell? ⟨gb307,0,none⟩=some (.bool true)∧w18.cell? ⟨gb307,1,none⟩=some (.string (⟨#[119,119,119,46,98,97,110,107,46,99,111,109]⟩:ByteArray))∧w18.cell? ⟨gb307,2,none⟩=some (.int .i64 443):=hS_;refine norm_ (a':=?_) ?_ ?_;rotate_left
         ·simp only [putAll,Act.put,Sa_,Sb_,Sc_]
          rfl
         refine two_ (i:=4) (j:=9) (Ni:=some 26) (Nj:=some 5) #[true,true,true,true,true,false,false,false,false,false,true,false,false,false] M3_ rfl rfl rfl rfl (two_of HT_.out (by kernel_rfl)) (by decide) (by decide) (fun K hK => ?_) (fun K hK => ?_)
         ·skip
          refine goes_ Tryz.func9 (by kernel_rfl) rfl #[.agg #[.int .i64 1,.int .i64 2,.int .i64 (wrap64 (1 + t304)),.int .i64 t305],.agg #[.bool true,.string (⟨#[119,119,119,46,98,97,110,107,46,99,111,109]⟩:ByteArray),.int .i64 443],.string (⟨#[98,97,110,107,46,99,111,109]⟩:ByteArray),.int .i64 3,.int .i64 t308,.bool true] (by rfl) rfl rfl (by (try simp only [Sd_,Se_,Sf_]);first|done|rfl|(simp only [Sg_,Sh_];rfl)) ?_;with_reducible refine (impl_MakeAssertion.calls (ht_:=Man.tab_on HT.out (xe_ HB)) k 1 2 (wrap64 (1 + t304)) t305 true (⟨#[119,119,119,46,98,97,110,107,46,99,111,109]⟩:ByteArray) 443 (⟨#[98,97,110,107,46,99,111,109]⟩:ByteArray) 3 t308 true t309 t310 t311 t312 t313 t314 t315 t316 t317 t318 t319 t320 _ A7.out).mono ?_;rintro e w19 ⟨rfl,hb⟩;refine ⟨_,rfl,?_⟩;replace BK306:=bb_ BK306 hb;replace BK307:=bb_ BK307 hb;replace BK322:=bb_ BK322 hb;replace HB:=bs_ HB hb;(try clear hb);(try clear hb2);(try clear hk);(try clear hi);refine hK.out _ _ ⟨q_ BK306 0 rfl,q_ BK306 1 rfl,q_ BK306 2 rfl,q_ BK306 3 rfl,q_ BK307 0 rfl,q_ BK307 1 rfl,q_ BK307 2 rfl⟩ (fun hHeld => ?_);clear hK K;refine norm_ (a':=?_) ?_ ?_;rotate_left
          ·show Act.put _ (some 26) _=_
           simp only [Act.put,Sa_,Sb_,Sc_,i64_w,i32_w]
           rfl
          refine pure_ (i:=5) (N:=some 21) (v:=?_) (a':=?_) #[true,true,true,true,true,true,false,false,false,false,true,false,false,false] rfl rfl (any_of HT_.out (by kernel_rfl)) (fun _ _ _ h => h) (Or.inl ⟨by rfl,?_⟩) ?_ ?_;rotate_left
          ·intro w'
           go_simp
           with_reducible rfl
          rotate_left
          ·simp only [Act.put,Sa_,Sb_,Sc_,i64_w,i32_w]
           rfl
          refine pure_ (i:=6) (N:=some 27) (v:=?_) (a':=?_) #[true,true,true,true,true,true,true,false,false,false,true,false,false,false] rfl rfl (any_of HT_.out (by kernel_rfl)) (fun _ _ _ h => h) (Or.inl ⟨by rfl,?_⟩) ?_ ?_;rotate_left
          ·intro w'
           go_simp
           with_reducible rfl
          rotate_left
          ·simp only [Act.put,Sa_,Sb_,Sc_,i64_w,i32_w]
           rfl
          refine pure_ (i:=7) (N:=some 28) (v:=?_) (a':=?_) #[true,true,true,true,true,true,true,true,false,false,true,false,false,false] rfl rfl (any_of HT_.out (by kernel_rfl)) (fun _ _ _ h => h) (Or.inl ⟨by rfl,?_⟩) ?_ ?_;rotate_left
          ·intro w'
           go_simp
           with_reducible rfl
          rotate_left
          ·simp only [Act.put,Sa_,Sb_,Sc_,i64_w,i32_w]
           rfl
          refine pure_ (i:=8) (N:=some 29) (v:=?_) (a':=?_) M2_ rfl rfl (any_of HT_.out (by kernel_rfl)) (fun _ _ _ h => h) (Or.inl ⟨by rfl,?_⟩) ?_ ?_;rotate_left
          ·intro w'
           go_simp
           with_reducible rfl
          rotate_left
          ·simp only [Act.put,Sa_,Sb_,Sc_,i64_w,i32_w]
           rfl
          exact norm_ (by simp only [putAll,Act.put,Sa_,Sb_,Sc_] <;> rfl) (hJ3_4_10 (gb322) _ ⟨hHeld,(xk_ BK306),(xk_ BK307),(xk_ BK322),GW322.out,GE322.out,NB306_322.out,NB322_306.out,NB307_322.out,NB322_307.out,(xe_ HB)⟩)
         ·skip
          refine box_step ?hg (N:=5) ?hd (cs:=#[.int .i64 0,.int .i64 0,.int .i64 0,.int .i64 0]) (t:=26) ?hr ?_;(case hd => rfl);(case hg => rfl);(case hr => first|(go_simp;done)|(go_simp;rfl));intro gb321 hg w19 hbox hb;have BK321:=Am10_ (hbox);have GW321:=gw_ hg HB;have GE321:=GW321;have NB306_321:=ne1_ hg BK306;have NB321_306:=ne2_ hg BK306;have NB307_321:=ne1_ hg BK307;have NB321_307:=ne2_ hg BK307;have NB322_321:=ne1_ hg BK322;have NB321_322:=ne2_ hg BK322;replace BK306:=bb_ BK306 hb;replace BK307:=bb_ BK307 hb;replace BK322:=bb_ BK322 hb;replace HB:=bs_ HB hb;clear hb hbox hg;refine hK.out _ _ ⟨q_ BK306 0 rfl,q_ BK306 1 rfl,q_ BK306 2 rfl,q_ BK306 3 rfl,q_ BK307 0 rfl,q_ BK307 1 rfl,q_ BK307 2 rfl⟩ (fun hHeld => ?_);clear hK K;refine norm_ (a':=?_) ?_ ?_;rotate_left
          ·show Act.put _ (some 5) _=_
           simp only [Act.put,Sa_,Sb_,Sc_,i64_w,i32_w]
           rfl
          exact norm_ (by simp only [putAll,Act.put,Sa_,Sb_,Sc_] <;> rfl) (hJ3_9_10 (gb321,gb322) _ ⟨hHeld,(xk_ BK306),(xk_ BK307),(xk_ BK321),(xk_ BK322),GW321.out,GE321.out,NB306_321.out,NB321_306.out,NB307_321.out,NB321_307.out,NB322_321.out,NB321_322.out,GW322.out,GE322.out,NB306_322.out,NB322_306.out,NB307_322.out,NB322_307.out,(xe_ HB)⟩)
       ·skip
        rintro gb321 w18 ⟨hS_,h0_,h1_,h2_,h3_,h4_,h5_,h6_,h7_,h8_,h9_⟩;have n0_:Aside0 (w18.heap[gb306]?=some (.cells #[.int .i64 1,.int .i64 2,.int .i64 (wrap64 (1 + t304)),.int .i64 t305] 26 (0,0))):=⟨h0_⟩;have n1_:Aside0 (w18.heap[gb307]?=some (.cells #[.bool true,.string (⟨#[119,119,119,46,98,97,110,107,46,99,111,109]⟩:ByteArray),.int .i64 443] 28 (0,0))):=⟨h1_⟩;have n2_:Aside0 (w18.heap[gb321]?=some (.cells #[.int .i64 0,.int .i64 0,.int .i64 0,.int .i64 0] 26 (0,0))):=⟨h2_⟩;have n3_:Aside0 (w.heap.size ≤ gb321):=⟨h3_⟩;have n4_:Aside0 (w.heap.size ≤ gb321):=⟨h4_⟩;have n5_:Aside0 (gb306 ≠ gb321):=⟨h5_⟩;have n6_:Aside0 (gb321 ≠ gb306):=⟨h6_⟩;have n7_:Aside0 (gb307 ≠ gb321):=⟨h7_⟩;have n8_:Aside0 (gb321 ≠ gb307):=⟨h8_⟩;have n9_:Aside0 (Below w.heap.size w w18):=⟨h9_⟩;clear BK306;clear BK307;clear HB;clear h0_ h1_ h2_ h3_ h4_ h5_ h6_ h7_ h8_ h9_;have BK306:=n0_;have BK307:=n1_;have BK321:=n2_;have GW321:=n3_;have GE321:=n4_;have NB306_321:=n5_;have NB321_306:=n6_;have NB307_321:=n7_;have NB321_307:=n8_;have HB:=n9_;clear n0_ n1_ n2_ n3_ n4_ n5_ n6_ n7_ n8_ n9_;have hHeld:w18.cell? ⟨gb306,0,none⟩=some (.int .i64 1)∧w18.cell? ⟨gb306,1,none⟩=some (.int .i64 2)∧w18.cell? ⟨gb306,2,none⟩=some (.int .i64 (wrap64 (1 + t304)))∧w18.cell? ⟨gb306,3,none⟩=some (.int .i64 t305)∧w18.cell? ⟨gb307,0,none⟩=some (.bool true)∧w18.cell? ⟨gb307,1,none⟩=some (.string (⟨#[119,119,119,46,98,97,110,107,46,99,111,109]⟩:ByteArray))∧w18.cell? ⟨gb307,2,none⟩=some (.int .i64 443):=hS_;refine norm_ (a':=?_) ?_ ?_;rotate_left
        ·simp only [putAll,Act.put,Sa_,Sb_,Sc_]
         rfl
        refine two_ (i:=4) (j:=10) (Ni:=some 26) (Nj:=some 6) #[true,true,true,true,true,false,false,false,false,true,false,false,false,false] M3_ rfl rfl rfl rfl (two_of HT_.out (by kernel_rfl)) (by decide) (by decide) (fun K hK => ?_) (fun K hK => ?_)
        ·skip
         refine goes_ Tryz.func9 (by kernel_rfl) rfl #[.agg #[.int .i64 1,.int .i64 2,.int .i64 (wrap64 (1 + t304)),.int .i64 t305],.agg #[.bool true,.string (⟨#[119,119,119,46,98,97,110,107,46,99,111,109]⟩:ByteArray),.int .i64 443],.string (⟨#[98,97,110,107,46,99,111,109]⟩:ByteArray),.int .i64 3,.int .i64 t308,.bool true] (by rfl) rfl rfl (by (try simp only [Sd_,Se_,Sf_]);first|done|rfl|(simp only [Sg_,Sh_];rfl)) ?_;with_reducible refine (impl_MakeAssertion.calls (ht_:=Man.tab_on HT.out (xe_ HB)) k 1 2 (wrap64 (1 + t304)) t305 true (⟨#[119,119,119,46,98,97,110,107,46,99,111,109]⟩:ByteArray) 443 (⟨#[98,97,110,107,46,99,111,109]⟩:ByteArray) 3 t308 true t309 t310 t311 t312 t313 t314 t315 t316 t317 t318 t319 t320 _ A7.out).mono ?_;rintro e w19 ⟨rfl,hb⟩;refine ⟨_,rfl,?_⟩;replace BK306:=bb_ BK306 hb;replace BK307:=bb_ BK307 hb;replace BK321:=bb_ BK321 hb;replace HB:=bs_ HB hb;(try clear hb);(try clear hb2);(try clear hk);(try clear hi);refine hK.out _ _ ⟨q_ BK306 0 rfl,q_ BK306 1 rfl,q_ BK306 2 rfl,q_ BK306 3 rfl,q_ BK307 0 rfl,q_ BK307 1 rfl,q_ BK307 2 rfl⟩ (fun hHeld => ?_);clear hK K;refine norm_ (a':=?_) ?_ ?_;rotate_left
         ·show Act.put _ (some 26) _=_
          simp only [Act.put,Sa_,Sb_,Sc_,i64_w,i32_w]
          rfl
         refine pure_ (i:=5) (N:=some 21) (v:=?_) (a':=?_) #[true,true,true,true,true,true,false,false,false,true,false,false,false,false] rfl rfl (any_of HT_.out (by kernel_rfl)) (fun _ _ _ h => h) (Or.inl ⟨by rfl,?_⟩) ?_ ?_;rotate_left
         ·intro w'
          go_simp
          with_reducible rfl
         rotate_left
         ·simp only [Act.put,Sa_,Sb_,Sc_,i64_w,i32_w]
          rfl
         refine pure_ (i:=6) (N:=some 27) (v:=?_) (a':=?_) #[true,true,true,true,true,true,true,false,false,true,false,false,false,false] rfl rfl (any_of HT_.out (by kernel_rfl)) (fun _ _ _ h => h) (Or.inl ⟨by rfl,?_⟩) ?_ ?_;rotate_left
         ·intro w'
          go_simp
          with_reducible rfl
         rotate_left
         ·simp only [Act.put,Sa_,Sb_,Sc_,i64_w,i32_w]
          rfl
         refine pure_ (i:=7) (N:=some 28) (v:=?_) (a':=?_) #[true,true,true,true,true,true,true,true,false,true,false,false,false,false] rfl rfl (any_of HT_.out (by kernel_rfl)) (fun _ _ _ h => h) (Or.inl ⟨by rfl,?_⟩) ?_ ?_;rotate_left
         ·intro w'
          go_simp
          with_reducible rfl
         rotate_left
         ·simp only [Act.put,Sa_,Sb_,Sc_,i64_w,i32_w]
          rfl
         refine pure_ (i:=8) (N:=some 29) (v:=?_) (a':=?_) M1_ rfl rfl (any_of HT_.out (by kernel_rfl)) (fun _ _ _ h => h) (Or.inl ⟨by rfl,?_⟩) ?_ ?_;rotate_left
         ·intro w'
          go_simp
          with_reducible rfl
         rotate_left
         ·simp only [Act.put,Sa_,Sb_,Sc_,i64_w,i32_w]
          rfl
         exact norm_ (by simp only [putAll,Act.put,Sa_,Sb_,Sc_] <;> rfl) (hJ3_4_9 (gb321) _ ⟨hHeld,(xk_ BK306),(xk_ BK307),(xk_ BK321),GW321.out,GE321.out,NB306_321.out,NB321_306.out,NB307_321.out,NB321_307.out,(xe_ HB)⟩)
        ·skip
         refine box_step ?hg (N:=6) ?hd (cs:=#[.string (⟨#[]⟩:ByteArray),.string (⟨#[]⟩:ByteArray),.int .i64 0,.int .i64 0,.bool false,.int .i64 0,.int .i64 0]) (t:=30) ?hr ?_;(case hd => rfl);(case hg => rfl);(case hr => first|(go_simp;done)|(go_simp;rfl));intro gb322 hg w19 hbox hb;have BK322:=Am10_ (hbox);have GW322:=gw_ hg HB;have GE322:=GW322;have NB306_322:=ne1_ hg BK306;have NB322_306:=ne2_ hg BK306;have NB307_322:=ne1_ hg BK307;have NB322_307:=ne2_ hg BK307;have NB321_322:=ne1_ hg BK321;have NB322_321:=ne2_ hg BK321;replace BK306:=bb_ BK306 hb;replace BK307:=bb_ BK307 hb;replace BK321:=bb_ BK321 hb;replace HB:=bs_ HB hb;clear hb hbox hg;refine hK.out _ _ ⟨q_ BK306 0 rfl,q_ BK306 1 rfl,q_ BK306 2 rfl,q_ BK306 3 rfl,q_ BK307 0 rfl,q_ BK307 1 rfl,q_ BK307 2 rfl⟩ (fun hHeld => ?_);clear hK K;refine norm_ (a':=?_) ?_ ?_;rotate_left
         ·show Act.put _ (some 6) _=_
          simp only [Act.put,Sa_,Sb_,Sc_,i64_w,i32_w]
          rfl
         exact norm_ (by simp only [putAll,Act.put,Sa_,Sb_,Sc_] <;> rfl) (hJ3_9_10 (gb321,gb322) _ ⟨hHeld,(xk_ BK306),(xk_ BK307),(xk_ BK321),(xk_ BK322),GW321.out,GE321.out,NB306_321.out,NB321_306.out,NB307_321.out,NB321_307.out,NB322_321.out,NB321_322.out,GW322.out,GE322.out,NB306_322.out,NB322_306.out,NB307_322.out,NB322_307.out,(xe_ HB)⟩)
      ·skip
       rintro _ w18 ⟨hS_,h0_,h1_,h2_⟩;have n0_:Aside0 (w18.heap[gb306]?=some (.cells #[.int .i64 1,.int .i64 2,.int .i64 (wrap64 (1 + t304)),.int .i64 t305] 26 (0,0))):=⟨h0_⟩;have n1_:Aside0 (w18.heap[gb307]?=some (.cells #[.bool true,.string (⟨#[119,119,119,46,98,97,110,107,46,99,111,109]⟩:ByteArray),.int .i64 443] 28 (0,0))):=⟨h1_⟩;have n2_:Aside0 (Below w.heap.size w w18):=⟨h2_⟩;clear BK306;clear BK307;clear HB;clear h0_ h1_ h2_;have BK306:=n0_;have BK307:=n1_;have HB:=n2_;clear n0_ n1_ n2_;have hHeld:w18.cell? ⟨gb306,0,none⟩=some (.int .i64 1)∧w18.cell? ⟨gb306,1,none⟩=some (.int .i64 2)∧w18.cell? ⟨gb306,2,none⟩=some (.int .i64 (wrap64 (1 + t304)))∧w18.cell? ⟨gb306,3,none⟩=some (.int .i64 t305)∧w18.cell? ⟨gb307,0,none⟩=some (.bool true)∧w18.cell? ⟨gb307,1,none⟩=some (.string (⟨#[119,119,119,46,98,97,110,107,46,99,111,109]⟩:ByteArray))∧w18.cell? ⟨gb307,2,none⟩=some (.int .i64 443):=hS_;refine norm_ (a':=?_) ?_ ?_;rotate_left
       ·simp only [putAll,Act.put,Sa_,Sb_,Sc_]
        rfl
       refine two_ (i:=9) (j:=10) (Ni:=some 5) (Nj:=some 6) M1_ M2_ rfl rfl rfl rfl (two_of HT_.out (by kernel_rfl)) (by decide) (by decide) (fun K hK => ?_) (fun K hK => ?_)
       ·skip
        refine box_step ?hg (N:=5) ?hd (cs:=#[.int .i64 0,.int .i64 0,.int .i64 0,.int .i64 0]) (t:=26) ?hr ?_;(case hd => rfl);(case hg => rfl);(case hr => first|(go_simp;done)|(go_simp;rfl));intro gb321 hg w19 hbox hb;have BK321:=Am10_ (hbox);have GW321:=gw_ hg HB;have GE321:=GW321;have NB306_321:=ne1_ hg BK306;have NB321_306:=ne2_ hg BK306;have NB307_321:=ne1_ hg BK307;have NB321_307:=ne2_ hg BK307;replace BK306:=bb_ BK306 hb;replace BK307:=bb_ BK307 hb;replace HB:=bs_ HB hb;clear hb hbox hg;refine hK.out _ _ ⟨q_ BK306 0 rfl,q_ BK306 1 rfl,q_ BK306 2 rfl,q_ BK306 3 rfl,q_ BK307 0 rfl,q_ BK307 1 rfl,q_ BK307 2 rfl⟩ (fun hHeld => ?_);clear hK K;refine norm_ (a':=?_) ?_ ?_;rotate_left
        ·show Act.put _ (some 5) _=_
         simp only [Act.put,Sa_,Sb_,Sc_,i64_w,i32_w]
         rfl
        exact norm_ (by simp only [putAll,Act.put,Sa_,Sb_,Sc_] <;> rfl) (hJ3_4_9 (gb321) _ ⟨hHeld,(xk_ BK306),(xk_ BK307),(xk_ BK321),GW321.out,GE321.out,NB306_321.out,NB321_306.out,NB307_321.out,NB321_307.out,(xe_ HB)⟩)
       ·skip
        refine box_step ?hg (N:=6) ?hd (cs:=#[.string (⟨#[]⟩:ByteArray),.string (⟨#[]⟩:ByteArray),.int .i64 0,.int .i64 0,.bool false,.int .i64 0,.int .i64 0]) (t:=30) ?hr ?_;(case hd => rfl);(case hg => rfl);(case hr => first|(go_simp;done)|(go_simp;rfl));intro gb322 hg w19 hbox hb;have BK322:=Am10_ (hbox);have GW322:=gw_ hg HB;have GE322:=GW322;have NB306_322:=ne1_ hg BK306;have NB322_306:=ne2_ hg BK306;have NB307_322:=ne1_ hg BK307;have NB322_307:=ne2_ hg BK307;replace BK306:=bb_ BK306 hb;replace BK307:=bb_ BK307 hb;replace HB:=bs_ HB hb;clear hb hbox hg;refine hK.out _ _ ⟨q_ BK306 0 rfl,q_ BK306 1 rfl,q_ BK306 2 rfl,q_ BK306 3 rfl,q_ BK307 0 rfl,q_ BK307 1 rfl,q_ BK307 2 rfl⟩ (fun hHeld => ?_);clear hK K;refine norm_ (a':=?_) ?_ ?_;rotate_left
        ·show Act.put _ (some 6) _=_
         simp only [Act.put,Sa_,Sb_,Sc_,i64_w,i32_w]
         rfl
        exact norm_ (by simp only [putAll,Act.put,Sa_,Sb_,Sc_] <;> rfl) (hJ3_4_10 (gb322) _ ⟨hHeld,(xk_ BK306),(xk_ BK307),(xk_ BK322),GW322.out,GE322.out,NB306_322.out,NB322_306.out,NB307_322.out,NB322_307.out,(xe_ HB)⟩)
     ·skip
      rintro ⟨gb321,gb322⟩ w19 ⟨hS_,h0_,h1_,h2_,h3_,h4_,h5_,h6_,h7_,h8_,h9_,h10_,h11_,h12_,h13_,h14_,h15_,h16_,h17_,h18_⟩;have n0_:Aside0 (w19.heap[gb306]?=some (.cells #[.int .i64 1,.int .i64 2,.int .i64 (wrap64 (1 + t304)),.int .i64 t305] 26 (0,0))):=⟨h0_⟩;have n1_:Aside0 (w19.heap[gb307]?=some (.cells #[.bool true,.string (⟨#[119,119,119,46,98,97,110,107,46,99,111,109]⟩:ByteArray),.int .i64 443] 28 (0,0))):=⟨h1_⟩;have n2_:Aside0 (w19.heap[gb321]?=some (.cells #[.int .i64 0,.int .i64 0,.int .i64 0,.int .i64 0] 26 (0,0))):=⟨h2_⟩;have n3_:Aside0 (w19.heap[gb322]?=some (.cells #[.string (⟨#[]⟩:ByteArray),.string (⟨#[]⟩:ByteArray),.int .i64 0,.int .i64 0,.bool false,.int .i64 0,.int .i64 0] 30 (0,0))):=⟨h3_⟩;have n4_:Aside0 (w.heap.size ≤ gb321):=⟨h4_⟩;have n5_:Aside0 (w.heap.size ≤ gb321):=⟨h5_⟩;have n6_:Aside0 (gb306 ≠ gb321):=⟨h6_⟩;have n7_:Aside0 (gb321 ≠ gb306):=⟨h7_⟩;have n8_:Aside0 (gb307 ≠ gb321):=⟨h8_⟩;have n9_:Aside0 (gb321 ≠ gb307):=⟨h9_⟩;have n10_:Aside0 (gb322 ≠ gb321):=⟨h10_⟩;have n11_:Aside0 (gb321 ≠ gb322):=⟨h11_⟩;have n12_:Aside0 (w.heap.size ≤ gb322):=⟨h12_⟩;have n13_:Aside0 (w.heap.size ≤ gb322):=⟨h13_⟩;have n14_:Aside0 (gb306 ≠ gb322):=⟨h14_⟩;have n15_:Aside0 (gb322 ≠ gb306):=⟨h15_⟩;have n16_:Aside0 (gb307 ≠ gb322):=⟨h16_⟩;have n17_:Aside0 (gb322 ≠ gb307):=⟨h17_⟩;have n18_:Aside0 (Below w.heap.size w w19):=⟨h18_⟩;clear BK306;clear BK307;clear HB;clear h0_ h1_ h2_ h3_ h4_ h5_ h6_ h7_ h8_ h9_ h10_ h11_ h12_ h13_ h14_ h15_ h16_ h17_ h18_;have BK306:=n0_;have BK307:=n1_;have BK321:=n2_;have BK322:=n3_;have GW321:=n4_;have GE321:=n5_;have NB306_321:=n6_;have NB321_306:=n7_;have NB307_321:=n8_;have NB321_307:=n9_;have NB322_321:=n10_;have NB321_322:=n11_;have GW322:=n12_;have GE322:=n13_;have NB306_322:=n14_;have NB322_306:=n15_;have NB307_322:=n16_;have NB322_307:=n17_;have HB:=n18_;clear n0_ n1_ n2_ n3_ n4_ n5_ n6_ n7_ n8_ n9_ n10_ n11_ n12_ n13_ n14_ n15_ n16_ n17_ n18_;have hHeld:w19.cell? ⟨gb306,0,none⟩=some (.int .i64 1)∧w19.cell? ⟨gb306,1,none⟩=some (.int .i64 2)∧w19.cell? ⟨gb306,2,none⟩=some (.int .i64 (wrap64 (1 + t304)))∧w19.cell? ⟨gb306,3,none⟩=some (.int .i64 t305)∧w19.cell? ⟨gb307,0,none⟩=some (.bool true)∧w19.cell? ⟨gb307,1,none⟩=some (.string (⟨#[119,119,119,46,98,97,110,107,46,99,111,109]⟩:ByteArray))∧w19.cell? ⟨gb307,2,none⟩=some (.int .i64 443):=hS_;refine norm_ (a':=?_) ?_ ?_;rotate_left
      ·simp only [putAll,Act.put,Sa_,Sb_,Sc_]
       rfl
      refine one_ (i:=4) (N:=some 26) #[true,true,true,true,true,false,false,false,false,true,true,false,false,false] rfl rfl (one_of HT_.out (by kernel_rfl)) (by decide) (fun K hK => ?_);refine goes_ Tryz.func9 (by kernel_rfl) rfl #[.agg #[.int .i64 1,.int .i64 2,.int .i64 (wrap64 (1 + t304)),.int .i64 t305],.agg #[.bool true,.string (⟨#[119,119,119,46,98,97,110,107,46,99,111,109]⟩:ByteArray),.int .i64 443],.string (⟨#[98,97,110,107,46,99,111,109]⟩:ByteArray),.int .i64 3,.int .i64 t308,.bool true] (by rfl) rfl rfl (by (try simp only [Sd_,Se_,Sf_]);first|done|rfl|(simp only [Sg_,Sh_];rfl)) ?_;with_reducible refine (impl_MakeAssertion.calls (ht_:=Man.tab_on HT.out (xe_ HB)) k 1 2 (wrap64 (1 + t304)) t305 true (⟨#[119,119,119,46,98,97,110,107,46,99,111,109]⟩:ByteArray) 443 (⟨#[98,97,110,107,46,99,111,109]⟩:ByteArray) 3 t308 true t309 t310 t311 t312 t313 t314 t315 t316 t317 t318 t319 t320 _ A7.out).mono ?_;rintro e w20 ⟨rfl,hb⟩;refine ⟨_,rfl,?_⟩;replace BK306:=bb_ BK306 hb;replace BK307:=bb_ BK307 hb;replace BK321:=bb_ BK321 hb;replace BK322:=bb_ BK322 hb;replace HB:=bs_ HB hb;(try clear hb);(try clear hb2);(try clear hk);(try clear hi);refine hK.out _ _ ⟨q_ BK306 0 rfl,q_ BK306 1 rfl,q_ BK306 2 rfl,q_ BK306 3 rfl,q_ BK307 0 rfl,q_ BK307 1 rfl,q_ BK307 2 rfl⟩ (fun hHeld => ?_);clear hK K;refine norm_ (a':=?_) ?_ ?_;rotate_left
      ·show Act.put _ (some 26) _=_
       simp only [Act.put,Sa_,Sb_,Sc_,i64_w,i32_w]
       rfl
      refine pure_ (i:=5) (N:=some 21) (v:=?_) (a':=?_) #[true,true,true,true,true,true,false,false,false,true,true,false,false,false] rfl rfl (any_of HT_.out (by kernel_rfl)) (fun _ _ _ h => h) (Or.inl ⟨by rfl,?_⟩) ?_ ?_;rotate_left
      ·intro w'
       go_simp
       with_reducible rfl
      rotate_left
      ·simp only [Act.put,Sa_,Sb_,Sc_,i64_w,i32_w]
       rfl
      refine pure_ (i:=6) (N:=some 27) (v:=?_) (a':=?_) #[true,true,true,true,true,true,true,false,false,true,true,false,false,false] rfl rfl (any_of HT_.out (by kernel_rfl)) (fun _ _ _ h => h) (Or.inl ⟨by rfl,?_⟩) ?_ ?_;rotate_left
      ·intro w'
       go_simp
       with_reducible rfl
      rotate_left
      ·simp only [Act.put,Sa_,Sb_,Sc_,i64_w,i32_w]
       rfl
      refine pure_ (i:=7) (N:=some 28) (v:=?_) (a':=?_) #[true,true,true,true,true,true,true,true,false,true,true,false,false,false] rfl rfl (any_of HT_.out (by kernel_rfl)) (fun _ _ _ h => h) (Or.inl ⟨by rfl,?_⟩) ?_ ?_;rotate_left
      ·intro w'
       go_simp
       with_reducible rfl
      rotate_left
      ·simp only [Act.put,Sa_,Sb_,Sc_,i64_w,i32_w]
       rfl
      refine pure_ (i:=8) (N:=some 29) (v:=?_) (a':=?_) M0_ rfl rfl (any_of HT_.out (by kernel_rfl)) (fun _ _ _ h => h) (Or.inl ⟨by rfl,?_⟩) ?_ ?_;rotate_left
      ·intro w'
       go_simp
       with_reducible rfl
      rotate_left
      ·simp only [Act.put,Sa_,Sb_,Sc_,i64_w,i32_w]
       rfl
      exact norm_ (by simp only [putAll,Act.put,Sa_,Sb_,Sc_] <;> rfl) (hJ3_4_9_10 (gb321,gb322) _ ⟨hHeld,(xk_ BK306),(xk_ BK307),(xk_ BK321),(xk_ BK322),GW321.out,GE321.out,NB306_321.out,NB321_306.out,NB307_321.out,NB321_307.out,NB322_321.out,NB321_322.out,GW322.out,GE322.out,NB306_322.out,NB322_306.out,NB307_322.out,NB322_307.out,(xe_ HB)⟩)
    ·skip
     rintro gb322 w19 ⟨hS_,h0_,h1_,h2_,h3_,h4_,h5_,h6_,h7_,h8_,h9_⟩;have n0_:Aside0 (w19.heap[gb306]?=some (.cells #[.int .i64 1,.int .i64 2,.int .i64 (wrap64 (1 + t304)),.int .i64 t305] 26 (0,0))):=⟨h0_⟩;have n1_:Aside0 (w19.heap[gb307]?=some (.cells #[.bool true,.string (⟨#[119,119,119,46,98,97,110,107,46,99,111,109]⟩:ByteArray),.int .i64 443] 28 (0,0))):=⟨h1_⟩;have n2_:Aside0 (w19.heap[gb322]?=some (.cells #[.string (⟨#[]⟩:ByteArray),.string (⟨#[]⟩:ByteArray),.int .i64 0,.int .i64 0,.bool false,.int .i64 0,.int .i64 0] 30 (0,0))):=⟨h2_⟩;have n3_:Aside0 (w.heap.size ≤ gb322):=⟨h3_⟩;have n4_:Aside0 (w.heap.size ≤ gb322):=⟨h4_⟩;have n5_:Aside0 (gb306 ≠ gb322):=⟨h5_⟩;have n6_:Aside0 (gb322 ≠ gb306):=⟨h6_⟩;have n7_:Aside0 (gb307 ≠ gb322):=⟨h7_⟩;have n8_:Aside0 (gb322 ≠ gb307):=⟨h8_⟩;have n9_:Aside0 (Below w.heap.size w w19):=⟨h9_⟩;clear BK306;clear BK307;clear HB;clear h0_ h1_ h2_ h3_ h4_ h5_ h6_ h7_ h8_ h9_;have BK306:=n0_;have BK307:=n1_;have BK322:=n2_;have GW322:=n3_;have GE322:=n4_;have NB306_322:=n5_;have NB322_306:=n6_;have NB307_322:=n7_;have NB322_307:=n8_;have HB:=n9_;clear n0_ n1_ n2_ n3_ n4_ n5_ n6_ n7_ n8_ n9_;have hHeld:w19.cell? ⟨gb306,0,none⟩=some (.int .i64 1)∧w19.cell? ⟨gb306,1,none⟩=some (.int .i64 2)∧w19.cell? ⟨gb306,2,none⟩=some (.int .i64 (wrap64 (1 + t304)))∧w19.cell? ⟨gb306,3,none⟩=some (.int .i64 t305)∧w19.cell? ⟨gb307,0,none⟩=some (.bool true)∧w19.cell? ⟨gb307,1,none⟩=some (.string (⟨#[119,119,119,46,98,97,110,107,46,99,111,109]⟩:ByteArray))∧w19.cell? ⟨gb307,2,none⟩=some (.int .i64 443):=hS_;refine norm_ (a':=?_) ?_ ?_;rotate_left
     ·simp only [putAll,Act.put,Sa_,Sb_,Sc_]
      rfl
     refine one_ (i:=9) (N:=some 5) M0_ rfl rfl (one_of HT_.out (by kernel_rfl)) (by decide) (fun K hK => ?_);refine box_step ?hg (N:=5) ?hd (cs:=#[.int .i64 0,.int .i64 0,.int .i64 0,.int .i64 0]) (t:=26) ?hr ?_;(case hd => rfl);(case hg => rfl);(case hr => first|(go_simp;done)|(go_simp;rfl));intro gb321 hg w20 hbox hb;have BK321:=Am10_ (hbox);have GW321:=gw_ hg HB;have GE321:=GW321;have NB306_321:=ne1_ hg BK306;have NB321_306:=ne2_ hg BK306;have NB307_321:=ne1_ hg BK307;have NB321_307:=ne2_ hg BK307;have NB322_321:=ne1_ hg BK322;have NB321_322:=ne2_ hg BK322;replace BK306:=bb_ BK306 hb;replace BK307:=bb_ BK307 hb;replace BK322:=bb_ BK322 hb;replace HB:=bs_ HB hb;clear hb hbox hg;refine hK.out _ _ ⟨q_ BK306 0 rfl,q_ BK306 1 rfl,q_ BK306 2 rfl,q_ BK306 3 rfl,q_ BK307 0 rfl,q_ BK307 1 rfl,q_ BK307 2 rfl⟩ (fun hHeld => ?_);clear hK K;refine norm_ (a':=?_) ?_ ?_;rotate_left
     ·show Act.put _ (some 5) _=_
      simp only [Act.put,Sa_,Sb_,Sc_,i64_w,i32_w]
      rfl
     exact norm_ (by simp only [putAll,Act.put,Sa_,Sb_,Sc_] <;> rfl) (hJ3_4_9_10 (gb321,gb322) _ ⟨hHeld,(xk_ BK306),(xk_ BK307),(xk_ BK321),(xk_ BK322),GW321.out,GE321.out,NB306_321.out,NB321_306.out,NB307_321.out,NB321_307.out,NB322_321.out,NB321_322.out,GW322.out,GE322.out,NB306_322.out,NB322_306.out,NB307_322.out,NB322_307.out,(xe_ HB)⟩)
   ·skip
    rintro gb321 w19 ⟨hS_,h0_,h1_,h2_,h3_,h4_,h5_,h6_,h7_,h8_,h9_⟩;have n0_:Aside0 (w19.heap[gb306]?=some (.cells #[.int .i64 1,.int .i64 2,.int .i64 (wrap64 (1 + t304)),.int .i64 t305] 26 (0,0))):=⟨h0_⟩;have n1_:Aside0 (w19.heap[gb307]?=some (.cells #[.bool true,.string (⟨#[119,119,119,46,98,97,110,107,46,99,111,109]⟩:ByteArray),.int .i64 443] 28 (0,0))):=⟨h1_⟩;have n2_:Aside0 (w19.heap[gb321]?=some (.cells #[.int .i64 0,.int .i64 0,.int .i64 0,.int .i64 0] 26 (0,0))):=⟨h2_⟩;have n3_:Aside0 (w.heap.size ≤ gb321):=⟨h3_⟩;have n4_:Aside0 (w.heap.size ≤ gb321):=⟨h4_⟩;have n5_:Aside0 (gb306 ≠ gb321):=⟨h5_⟩;have n6_:Aside0 (gb321 ≠ gb306):=⟨h6_⟩;have n7_:Aside0 (gb307 ≠ gb321):=⟨h7_⟩;have n8_:Aside0 (gb321 ≠ gb307):=⟨h8_⟩;have n9_:Aside0 (Below w.heap.size w w19):=⟨h9_⟩;clear BK306;clear BK307;clear HB;clear h0_ h1_ h2_ h3_ h4_ h5_ h6_ h7_ h8_ h9_;have BK306:=n0_;have BK307:=n1_;have BK321:=n2_;have GW321:=n3_;have GE321:=n4_;have NB306_321:=n5_;have NB321_306:=n6_;have NB307_321:=n7_;have NB321_307:=n8_;have HB:=n9_;clear n0_ n1_ n2_ n3_ n4_ n5_ n6_ n7_ n8_ n9_;have hHeld:w19.cell? ⟨gb306,0,none⟩=some (.int .i64 1)∧w19.cell? ⟨gb306,1,none⟩=some (.int .i64 2)∧w19.cell? ⟨gb306,2,none⟩=some (.int .i64 (wrap64 (1 + t304)))∧w19.cell? ⟨gb306,3,none⟩=some (.int .i64 t305)∧w19.cell? ⟨gb307,0,none⟩=some (.bool true)∧w19.cell? ⟨gb307,1,none⟩=some (.string (⟨#[119,119,119,46,98,97,110,107,46,99,111,109]⟩:ByteArray))∧w19.cell? ⟨gb307,2,none⟩=some (.int .i64 443):=hS_;refine norm_ (a':=?_) ?_ ?_;rotate_left
    ·simp only [putAll,Act.put,Sa_,Sb_,Sc_]
     rfl
    refine one_ (i:=10) (N:=some 6) M0_ rfl rfl (one_of HT_.out (by kernel_rfl)) (by decide) (fun K hK => ?_);refine box_step ?hg (N:=6) ?hd (cs:=#[.string (⟨#[]⟩:ByteArray),.string (⟨#[]⟩:ByteArray),.int .i64 0,.int .i64 0,.bool false,.int .i64 0,.int .i64 0]) (t:=30) ?hr ?_;(case hd => rfl);(case hg => rfl);(case hr => first|(go_simp;done)|(go_simp;rfl));intro gb322 hg w20 hbox hb;have BK322:=Am10_ (hbox);have GW322:=gw_ hg HB;have GE322:=GW322;have NB306_322:=ne1_ hg BK306;have NB322_306:=ne2_ hg BK306;have NB307_322:=ne1_ hg BK307;have NB322_307:=ne2_ hg BK307;have NB321_322:=ne1_ hg BK321;have NB322_321:=ne2_ hg BK321;replace BK306:=bb_ BK306 hb;replace BK307:=bb_ BK307 hb;replace BK321:=bb_ BK321 hb;replace HB:=bs_ HB hb;clear hb hbox hg;refine hK.out _ _ ⟨q_ BK306 0 rfl,q_ BK306 1 rfl,q_ BK306 2 rfl,q_ BK306 3 rfl,q_ BK307 0 rfl,q_ BK307 1 rfl,q_ BK307 2 rfl⟩ (fun hHeld => ?_);clear hK K;refine norm_ (a':=?_) ?_ ?_;rotate_left
    ·show Act.put _ (some 6) _=_
     simp only [Act.put,Sa_,Sb_,Sc_,i64_w,i32_w]
     rfl
    exact norm_ (by simp only [putAll,Act.put,Sa_,Sb_,Sc_] <;> rfl) (hJ3_4_9_10 (gb321,gb322) _ ⟨hHeld,(xk_ BK306),(xk_ BK307),(xk_ BK321),(xk_ BK322),GW321.out,GE321.out,NB306_321.out,NB321_306.out,NB307_321.out,NB321_307.out,NB322_321.out,NB321_322.out,GW322.out,GE322.out,NB306_322.out,NB322_306.out,NB307_322.out,NB322_307.out,(xe_ HB)⟩)
  rintro ⟨gb321,gb322⟩ w20 ⟨hS_,h0_,h1_,h2_,h3_,h4_,h5_,h6_,h7_,h8_,h9_,h10_,h11_,h12_,h13_,h14_,h15_,h16_,h17_,h18_⟩;have n0_:Aside0 (w20.heap[gb306]?=some (.cells #[.int .i64 1,.int .i64 2,.int .i64 (wrap64 (1 + t304)),.int .i64 t305] 26 (0,0))):=⟨h0_⟩;have n1_:Aside0 (w20.heap[gb307]?=some (.cells #[.bool true,.string (⟨#[119,119,119,46,98,97,110,107,46,99,111,109]⟩:ByteArray),.int .i64 443] 28 (0,0))):=⟨h1_⟩;have n2_:Aside0 (w20.heap[gb321]?=some (.cells #[.int .i64 0,.int .i64 0,.int .i64 0,.int .i64 0] 26 (0,0))):=⟨h2_⟩;have n3_:Aside0 (w20.heap[gb322]?=some (.cells #[.string (⟨#[]⟩:ByteArray),.string (⟨#[]⟩:ByteArray),.int .i64 0,.int .i64 0,.bool false,.int .i64 0,.int .i64 0] 30 (0,0))):=⟨h3_⟩;have n4_:Aside0 (w.heap.size ≤ gb321):=⟨h4_⟩;have n5_:Aside0 (w.heap.size ≤ gb321):=⟨h5_⟩;have n6_:Aside0 (gb306 ≠ gb321):=⟨h6_⟩;have n7_:Aside0 (gb321 ≠ gb306):=⟨h7_⟩;have n8_:Aside0 (gb307 ≠ gb321):=⟨h8_⟩;have n9_:Aside0 (gb321 ≠ gb307):=⟨h9_⟩;have n10_:Aside0 (gb322 ≠ gb321):=⟨h10_⟩;have n11_:Aside0 (gb321 ≠ gb322):=⟨h11_⟩;have n12_:Aside0 (w.heap.size ≤ gb322):=⟨h12_⟩;have n13_:Aside0 (w.heap.size ≤ gb322):=⟨h13_⟩;have n14_:Aside0 (gb306 ≠ gb322):=⟨h14_⟩;have n15_:Aside0 (gb322 ≠ gb306):=⟨h15_⟩;have n16_:Aside0 (gb307 ≠ gb322):=⟨h16_⟩;have n17_:Aside0 (gb322 ≠ gb307):=⟨h17_⟩;have n18_:Aside0 (Below w.heap.size w w20):=⟨h18_⟩;clear BK306;clear BK307;clear HB;clear h0_ h1_ h2_ h3_ h4_ h5_ h6_ h7_ h8_ h9_ h10_ h11_ h12_ h13_ h14_ h15_ h16_ h17_ h18_;have BK306:=n0_;have BK307:=n1_;have BK321:=n2_;have BK322:=n3_;have GW321:=n4_;have GE321:=n5_;have NB306_321:=n6_;have NB321_306:=n7_;have NB307_321:=n8_;have NB321_307:=n9_;have NB322_321:=n10_;have NB321_322:=n11_;have GW322:=n12_;have GE322:=n13_;have NB306_322:=n14_;have NB322_306:=n15_;have NB307_322:=n16_;have NB322_307:=n17_;have HB:=n18_;clear n0_ n1_ n2_ n3_ n4_ n5_ n6_ n7_ n8_ n9_ n10_ n11_ n12_ n13_ n14_ n15_ n16_ n17_ n18_;have hHeld:w20.cell? ⟨gb306,0,none⟩=some (.int .i64 1)∧w20.cell? ⟨gb306,1,none⟩=some (.int .i64 2)∧w20.cell? ⟨gb306,2,none⟩=some (.int .i64 (wrap64 (1 + t304)))∧w20.cell? ⟨gb306,3,none⟩=some (.int .i64 t305)∧w20.cell? ⟨gb307,0,none⟩=some (.bool true)∧w20.cell? ⟨gb307,1,none⟩=some (.string (⟨#[119,119,119,46,98,97,110,107,46,99,111,109]⟩:ByteArray))∧w20.cell? ⟨gb307,2,none⟩=some (.int .i64 443):=hS_;refine norm_ (a':=?_) ?_ ?_;rotate_left
  ·simp only [putAll,Act.put,Sa_,Sb_,Sc_]
   rfl
  refine one_ (i:=11) (N:=none) #[true,true,true,true,true,true,true,true,true,true,true,true,false,false] rfl rfl (one_of HT_.out (by kernel_rfl)) (by decide) (fun K hK => ?_);have hs21:w20.cell? ⟨gb321,0,none⟩=some (.int .i64 0):=q_ BK321 0 rfl;have hfs21:=blk_frozen BK321.out 0;have hns21_0:=NB306_321.out;have hns21_1:=NB307_321.out;have hns21_3:=NB322_321.out;have hms21_0:=NB321_306.out;have hms21_1:=NB321_307.out;have hms21_3:=NB321_322.out;have hs22:w20.cell? ⟨gb321,1,none⟩=some (.int .i64 0):=q_ BK321 1 rfl;have hfs22:=blk_frozen BK321.out 1;have hns22_0:=NB306_321.out;have hns22_1:=NB307_321.out;have hns22_3:=NB322_321.out;have hms22_0:=NB321_306.out;have hms22_1:=NB321_307.out;have hms22_3:=NB321_322.out;have hs23:w20.cell? ⟨gb321,2,none⟩=some (.int .i64 0):=q_ BK321 2 rfl;have hfs23:=blk_frozen BK321.out 2;have hns23_0:=NB306_321.out;have hns23_1:=NB307_321.out;have hns23_3:=NB322_321.out;have hms23_0:=NB321_306.out;have hms23_1:=NB321_307.out;have hms23_3:=NB321_322.out;have hs24:w20.cell? ⟨gb321,3,none⟩=some (.int .i64 0):=q_ BK321 3 rfl;have hfs24:=blk_frozen BK321.out 3;have hns24_0:=NB306_321.out;have hns24_1:=NB307_321.out;have hns24_3:=NB322_321.out;have hms24_0:=NB321_306.out;have hms24_1:=NB321_307.out;have hms24_3:=NB321_322.out;refine skip_ (w1:=?_) (by rfl) rfl ?_ ?_;rotate_left
  ·go_simp
   rfl
  refine hK.out _ _ ⟨((cell_far (p:=⟨gb321,_,none⟩) NB306_321.out _).trans (((cell_far (p:=⟨gb321,_,none⟩) NB306_321.out _).trans (((cell_far (p:=⟨gb321,_,none⟩) NB306_321.out _).trans (((cell_far (p:=⟨gb321,_,none⟩) NB306_321.out _).trans (hHeld.1)))))))),((cell_far (p:=⟨gb321,_,none⟩) NB306_321.out _).trans (((cell_far (p:=⟨gb321,_,none⟩) NB306_321.out _).trans (((cell_far (p:=⟨gb321,_,none⟩) NB306_321.out _).trans (((cell_far (p:=⟨gb321,_,none⟩) NB306_321.out _).trans (hHeld.2.1)))))))),((cell_far (p:=⟨gb321,_,none⟩) NB306_321.out _).trans (((cell_far (p:=⟨gb321,_,none⟩) NB306_321.out _).trans (((cell_far (p:=⟨gb321,_,none⟩) NB306_321.out _).trans (((cell_far (p:=⟨gb321,_,none⟩) NB306_321.out _).trans (hHeld.2.2.1)))))))),((cell_far (p:=⟨gb321,_,none⟩) NB306_321.out _).trans (((cell_far (p:=⟨gb321,_,none⟩) NB306_321.out _).trans (((cell_far (p:=⟨gb321,_,none⟩) NB306_321.out _).trans (((cell_far (p:=⟨gb321,_,none⟩) NB306_321.out _).trans (hHeld.2.2.2.1)))))))),((cell_far (p:=⟨gb321,_,none⟩) NB307_321.out _).trans (((cell_far (p:=⟨gb321,_,none⟩) NB307_321.out _).trans (((cell_far (p:=⟨gb321,_,none⟩) NB307_321.out _).trans (((cell_far (p:=⟨gb321,_,none⟩) NB307_321.out _).trans (hHeld.2.2.2.2.1)))))))),((cell_far (p:=⟨gb321,_,none⟩) NB307_321.out _).trans (((cell_far (p:=⟨gb321,_,none⟩) NB307_321.out _).trans (((cell_far (p:=⟨gb321,_,none⟩) NB307_321.out _).trans (((cell_far (p:=⟨gb321,_,none⟩) NB307_321.out _).trans (hHeld.2.2.2.2.2.1)))))))),((cell_far (p:=⟨gb321,_,none⟩) NB307_321.out _).trans (((cell_far (p:=⟨gb321,_,none⟩) NB307_321.out _).trans (((cell_far (p:=⟨gb321,_,none⟩) NB307_321.out _).trans (((cell_far (p:=⟨gb321,_,none⟩) NB307_321.out _).trans (hHeld.2.2.2.2.2.2))))))))⟩ (fun hHeld => ?_);clear hK K;refine one_ (i:=12) (N:=none) #[true,true,true,true,true,true,true,true,true,true,true,true,true,false] rfl rfl (one_of HT_.out (by kernel_rfl)) (by decide) (fun K hK => ?_);have hs25:w20.cell? ⟨gb322,0,none⟩=some (.string (⟨#[]⟩:ByteArray)):=q_ BK322 0 rfl;have hfs25:=blk_frozen BK322.out 0;have hns25_0:=NB306_322.out;have hns25_1:=NB307_322.out;have hns25_2:=NB321_322.out;have hms25_0:=NB322_306.out;have hms25_1:=NB322_307.out;have hms25_2:=NB322_321.out;have hs26:w20.cell? ⟨gb322,1,none⟩=some (.string (⟨#[]⟩:ByteArray)):=q_ BK322 1 rfl;have hfs26:=blk_frozen BK322.out 1;have hns26_0:=NB306_322.out;have hns26_1:=NB307_322.out;have hns26_2:=NB321_322.out;have hms26_0:=NB322_306.out;have hms26_1:=NB322_307.out;have hms26_2:=NB322_321.out;have hs27:w20.cell? ⟨gb322,2,none⟩=some (.int .i64 0):=q_ BK322 2 rfl;have hfs27:=blk_frozen BK322.out 2;have hns27_0:=NB306_322.out;have hns27_1:=NB307_322.out;have hns27_2:=NB321_322.out;have hms27_0:=NB322_306.out;have hms27_1:=NB322_307.out;have hms27_2:=NB322_321.out;have hs28:w20.cell? ⟨gb322,3,none⟩=some (.int .i64 0):=q_ BK322 3 rfl;have hfs28:=blk_frozen BK322.out 3;have hns28_0:=NB306_322.out;have hns28_1:=NB307_322.out;have hns28_2:=NB321_322.out;have hms28_0:=NB322_306.out;have hms28_1:=NB322_307.out;have hms28_2:=NB322_321.out;have hs29:w20.cell? ⟨gb322,4,none⟩=some (.bool false):=q_ BK322 4 rfl;have hfs29:=blk_frozen BK322.out 4;have hns29_0:=NB306_322.out;have hns29_1:=NB307_322.out;have hns29_2:=NB321_322.out;have hms29_0:=NB322_306.out;have hms29_1:=NB322_307.out;have hms29_2:=NB322_321.out;have hs30:w20.cell? ⟨gb322,5,none⟩=some (.int .i64 0):=q_ BK322 5 rfl;have hfs30:=blk_frozen BK322.out 5;have hns30_0:=NB306_322.out;have hns30_1:=NB307_322.out;have hns30_2:=NB321_322.out;have hms30_0:=NB322_306.out;have hms30_1:=NB322_307.out;have hms30_2:=NB322_321.out;have hs31:w20.cell? ⟨gb322,6,none⟩=some (.int .i64 0):=q_ BK322 6 rfl;have hfs31:=blk_frozen BK322.out 6;have hns31_0:=NB306_322.out;have hns31_1:=NB307_322.out;have hns31_2:=NB321_322.out;have hms31_0:=NB322_306.out;have hms31_1:=NB322_307.out;have hms31_2:=NB322_321.out;refine skip_ (w1:=?_) (by rfl) rfl ?_ ?_;rotate_left
  ·go_simp
   rfl
  refine hK.out _ _ ⟨((cell_far (p:=⟨gb322,_,none⟩) NB306_322.out _).trans (((cell_far (p:=⟨gb322,_,none⟩) NB306_322.out _).trans (((cell_far (p:=⟨gb322,_,none⟩) NB306_322.out _).trans (((cell_far (p:=⟨gb322,_,none⟩) NB306_322.out _).trans (((cell_far (p:=⟨gb322,_,none⟩) NB306_322.out _).trans (((cell_far (p:=⟨gb322,_,none⟩) NB306_322.out _).trans (((cell_far (p:=⟨gb322,_,none⟩) NB306_322.out _).trans (hHeld.1)))))))))))))),((cell_far (p:=⟨gb322,_,none⟩) NB306_322.out _).trans (((cell_far (p:=⟨gb322,_,none⟩) NB306_322.out _).trans (((cell_far (p:=⟨gb322,_,none⟩) NB306_322.out _).trans (((cell_far (p:=⟨gb322,_,none⟩) NB306_322.out _).trans (((cell_far (p:=⟨gb322,_,none⟩) NB306_322.out _).trans (((cell_far (p:=⟨gb322,_,none⟩) NB306_322.out _).trans (((cell_far (p:=⟨gb322,_,none⟩) NB306_322.out _).trans (hHeld.2.1)))))))))))))),((cell_far (p:=⟨gb322,_,none⟩) NB306_322.out _).trans (((cell_far (p:=⟨gb322,_,none⟩) NB306_322.out _).trans (((cell_far (p:=⟨gb322,_,none⟩) NB306_322.out _).trans (((cell_far (p:=⟨gb322,_,none⟩) NB306_322.out _).trans (((cell_far (p:=⟨gb322,_,none⟩) NB306_322.out _).trans (((cell_far (p:=⟨gb322,_,none⟩) NB306_322.out _).trans (((cell_far (p:=⟨gb322,_,none⟩) NB306_322.out _).trans (hHeld.2.2.1)))))))))))))),((cell_far (p:=⟨gb322,_,none⟩) NB306_322.out _).trans (((cell_far (p:=⟨gb322,_,none⟩) NB306_322.out _).trans (((cell_far (p:=⟨gb322,_,none⟩) NB306_322.out _).trans (((cell_far (p:=⟨gb322,_,none⟩) NB306_322.out _).trans (((cell_far (p:=⟨gb322,_,none⟩) NB306_322.out _).trans (((cell_far (p:=⟨gb322,_,none⟩) NB306_322.out _).trans (((cell_far (p:=⟨gb322,_,none⟩) NB306_322.out _).trans (hHeld.2.2.2.1)))))))))))))),((cell_far (p:=⟨gb322,_,none⟩) NB307_322.out _).trans (((cell_far (p:=⟨gb322,_,none⟩) NB307_322.out _).trans (((cell_far (p:=⟨gb322,_,none⟩) NB307_322.out _).trans (((cell_far (p:=⟨gb322,_,none⟩) NB307_322.out _).trans (((cell_far (p:=⟨gb322,_,none⟩) NB307_322.out _).trans (((cell_far (p:=⟨gb322,_,none⟩) NB307_322.out _).trans (((cell_far (p:=⟨gb322,_,none⟩) NB307_322.out _).trans (hHeld.2.2.2.2.1)))))))))))))),((cell_far (p:=⟨gb322,_,none⟩) NB307_322.out _).trans (((cell_far (p:=⟨gb322,_,none⟩) NB307_322.out _).trans (((cell_far (p:=⟨gb322,_,none⟩) NB307_322.out _).trans (((cell_far (p:=⟨gb322,_,none⟩) NB307_322.out _).trans (((cell_far (p:=⟨gb322,_,none⟩) NB307_322.out _).trans (((cell_far (p:=⟨gb322,_,none⟩) NB307_322.out _).trans (((cell_far (p:=⟨gb322,_,none⟩) NB307_322.out _).trans (hHeld.2.2.2.2.2.1)))))))))))))),((cell_far (p:=⟨gb322,_,none⟩) NB307_322.out _).trans (((cell_far (p:=⟨gb322,_,none⟩) NB307_322.out _).trans (((cell_far (p:=⟨gb322,_,none⟩) NB307_322.out _).trans (((cell_far (p:=⟨gb322,_,none⟩) NB307_322.out _).trans (((cell_far (p:=⟨gb322,_,none⟩) NB307_322.out _).trans (((cell_far (p:=⟨gb322,_,none⟩) NB307_322.out _).trans (((cell_far (p:=⟨gb322,_,none⟩) NB307_322.out _).trans (hHeld.2.2.2.2.2.2))))))))))))))⟩ (fun hHeld => ?_);clear hK K;refine pure_ (i:=13) (N:=some 7) (v:=?_) (a':=?_) #[true,true,true,true,true,true,true,true,true,true,true,true,true,true] rfl rfl (any_of HT_.out (by kernel_rfl)) (fun _ _ _ h => h) (Or.inl ⟨by rfl,?_⟩) ?_ ?_;rotate_left
  ·intro w'
   go_simp
   with_reducible rfl
  rotate_left
  ·simp only [Act.put,Sa_,Sb_,Sc_,i64_w,i32_w]
   rfl
  refine done_ (done_of HT_.out (by kernel_rfl)) ?_;have hnb32:=NB306_321.out;have hnc32:=NB321_306.out;have hnb33:=NB306_322.out;have hnc33:=NB322_306.out;have hcz34_0:w20.cell? ⟨gb306,0,none⟩=some (.int .i64 1):=q_ BK306 0 rfl;have hcz34_1:w20.cell? ⟨gb306,1,none⟩=some (.int .i64 2):=q_ BK306 1 rfl;have hcz34_2:w20.cell? ⟨gb306,2,none⟩=some (.int .i64 (wrap64 (1 + t304))):=q_ BK306 2 rfl;have hcz34_3:w20.cell? ⟨gb306,3,none⟩=some (.int .i64 t305):=q_ BK306 3 rfl;have hfz34_0:=blk_frozen BK306.out 0;have hfz34_1:=blk_frozen BK306.out 1;have hfz34_2:=blk_frozen BK306.out 2;have hfz34_3:=blk_frozen BK306.out 3
  go_upto_region 7 with (first|((with_reducible refine gate_callee (f:=10) rfl ?_);refine goesL_ (some 31) rfl rfl Tryz.func10 (by kernel_rfl) rfl #[.agg #[.int .i64 1,.int .i64 2,.int .i64 (wrap64 (1 + t304)),.int .i64 t305],.string (⟨#[98,97,110,107,46,99,111,109]⟩:ByteArray),.int .i64 3] rfl (by (try simp only [Sd_,Se_,Sf_]);first|done|rfl|(simp only [Sg_,Sh_];rfl)) ?_;(with_reducible refine (spec_SitePublic.calls k 1 2 (wrap64 (1 + t304)) t305 (⟨#[98,97,110,107,46,99,111,109]⟩:ByteArray) 3 t323 _ A8.out).mono ?_);rintro e w35 ⟨rfl,hb⟩;refine ⟨_,rfl,?_⟩;have n0_:=Am10_ (blk_below (g:=gb306) (o:=.cells #[.int .i64 1,.int .i64 2,.int .i64 (wrap64 (1 + t304)),.int .i64 t305] 26 (0,0)) (by (repeat (first|(with_reducible first|refine blk_drewN ?_ _|refine blk_drew ?_|refine blk_alloc ?_ _)|refine blk_far ?_ NB306_322.out _|refine blk_far ?_ NB306_321.out _));exact BK306.out) hb);have n1_:=Am10_ (blk_below (g:=gb307) (o:=.cells #[.bool true,.string (⟨#[119,119,119,46,98,97,110,107,46,99,111,109]⟩:ByteArray),.int .i64 443] 28 (0,0)) (by (repeat (first|(with_reducible first|refine blk_drewN ?_ _|refine blk_drew ?_|refine blk_alloc ?_ _)|refine blk_far ?_ NB307_322.out _|refine blk_far ?_ NB307_321.out _));exact BK307.out) hb);have n2_:=Am10_ (blk_below (g:=gb321) (o:=.cells #[.int .i64 t309,.int .i64 t310,.int .i64 t311,.int .i64 t312] 26 (0,0)) (by (with_reducible repeat (first|refine blk_drewN ?_ _|refine blk_drew ?_|refine blk_alloc ?_ _));refine blk_far ?_ NB321_322.out _;(with_reducible repeat (first|refine blk_drewN ?_ _|refine blk_drew ?_|refine blk_alloc ?_ _));refine blk_far ?_ NB321_322.out _;(with_reducible repeat (first|refine blk_drewN ?_ _|refine blk_drew ?_|refine blk_alloc ?_ _));refine blk_far ?_ NB321_322.out _;(with_reducible repeat (first|refine blk_drewN ?_ _|refine blk_drew ?_|refine blk_alloc ?_ _));refine blk_far ?_ NB321_322.out _;(with_reducible repeat (first|refine blk_drewN ?_ _|refine blk_drew ?_|refine blk_alloc ?_ _));refine blk_far ?_ NB321_322.out _;(with_reducible repeat (first|refine blk_drewN ?_ _|refine blk_drew ?_|refine blk_alloc ?_ _));refine blk_far ?_ NB321_322.out _;(with_reducible repeat (first|refine blk_drewN ?_ _|refine blk_drew ?_|refine blk_alloc ?_ _));refine blk_far ?_ NB321_322.out _;(with_reducible repeat (first|refine blk_drewN ?_ _|refine blk_drew ?_|refine blk_alloc ?_ _));refine blk_put (cs:=#[.int .i64 t309,.int .i64 t310,.int .i64 t311,.int .i64 0]) ?_ 3 _ rfl;(with_reducible repeat (first|refine blk_drewN ?_ _|refine blk_drew ?_|refine blk_alloc ?_ _));refine blk_put (cs:=#[.int .i64 t309,.int .i64 t310,.int .i64 0,.int .i64 0]) ?_ 2 _ rfl;(with_reducible repeat (first|refine blk_drewN ?_ _|refine blk_drew ?_|refine blk_alloc ?_ _));refine blk_put (cs:=#[.int .i64 t309,.int .i64 0,.int .i64 0,.int .i64 0]) ?_ 1 _ rfl;(with_reducible repeat (first|refine blk_drewN ?_ _|refine blk_drew ?_|refine blk_alloc ?_ _));refine blk_put (cs:=#[.int .i64 0,.int .i64 0,.int .i64 0,.int .i64 0]) ?_ 0 _ rfl;(with_reducible repeat (first|refine blk_drewN ?_ _|refine blk_drew ?_|refine blk_alloc ?_ _));exact BK321.out) hb);have n3_:=Am10_ (blk_below (g:=gb322) (o:=.cells #[.string t313,.string t314,.int .i64 t315,.int .i64 t316,.bool t317,.int .i64 t318,.int .i64 t319] 30 (0,0)) (by (with_reducible repeat (first|refine blk_drewN ?_ _|refine blk_drew ?_|refine blk_alloc ?_ _));refine blk_put (cs:=#[.string t313,.string t314,.int .i64 t315,.int .i64 t316,.bool t317,.int .i64 t318,.int .i64 0]) ?_ 6 _ rfl;(with_reducible repeat (first|refine blk_drewN ?_ _|refine blk_drew ?_|refine blk_alloc ?_ _));refine blk_put (cs:=#[.string t313,.string t314,.int .i64 t315,.int .i64 t316,.bool t317,.int .i64 0,.int .i64 0]) ?_ 5 _ rfl;(with_reducible repeat (first|refine blk_drewN ?_ _|refine blk_drew ?_|refine blk_alloc ?_ _));refine blk_put (cs:=#[.string t313,.string t314,.int .i64 t315,.int .i64 t316,.bool false,.int .i64 0,.int .i64 0]) ?_ 4 _ rfl;(with_reducible repeat (first|refine blk_drewN ?_ _|refine blk_drew ?_|refine blk_alloc ?_ _));refine blk_put (cs:=#[.string t313,.string t314,.int .i64 t315,.int .i64 0,.bool false,.int .i64 0,.int .i64 0]) ?_ 3 _ rfl;(with_reducible repeat (first|refine blk_drewN ?_ _|refine blk_drew ?_|refine blk_alloc ?_ _));refine blk_put (cs:=#[.string t313,.string t314,.int .i64 0,.int .i64 0,.bool false,.int .i64 0,.int .i64 0]) ?_ 2 _ rfl;(with_reducible repeat (first|refine blk_drewN ?_ _|refine blk_drew ?_|refine blk_alloc ?_ _));refine blk_put (cs:=#[.string t313,.string (⟨#[]⟩:ByteArray),.int .i64 0,.int .i64 0,.bool false,.int .i64 0,.int .i64 0]) ?_ 1 _ rfl;(with_reducible repeat (first|refine blk_drewN ?_ _|refine blk_drew ?_|refine blk_alloc ?_ _));refine blk_put (cs:=#[.string (⟨#[]⟩:ByteArray),.string (⟨#[]⟩:ByteArray),.int .i64 0,.int .i64 0,.bool false,.int .i64 0,.int .i64 0]) ?_ 0 _ rfl;(with_reducible repeat (first|refine blk_drewN ?_ _|refine blk_drew ?_|refine blk_alloc ?_ _));refine blk_far ?_ NB322_321.out _;(with_reducible repeat (first|refine blk_drewN ?_ _|refine blk_drew ?_|refine blk_alloc ?_ _));refine blk_far ?_ NB322_321.out _;(with_reducible repeat (first|refine blk_drewN ?_ _|refine blk_drew ?_|refine blk_alloc ?_ _));refine blk_far ?_ NB322_321.out _;(with_reducible repeat (first|refine blk_drewN ?_ _|refine blk_drew ?_|refine blk_alloc ?_ _));refine blk_far ?_ NB322_321.out _;(with_reducible repeat (first|refine blk_drewN ?_ _|refine blk_drew ?_|refine blk_alloc ?_ _));exact BK322.out) hb);have n4_:=Am10_ (below_step (by repeat (first|(with_reducible first|exact HB.out|apply below_alloc|apply pw_below_drewN|apply below_drew1|refine below_set ?_ GE306.out|refine below_set ?_ GE307.out|refine below_set ?_ GE321.out|refine below_set ?_ GE322.out)|exact HB.out)) hb);clear BK306;clear BK307;clear BK321;clear BK322;clear HB;have BK306:=n0_;have BK307:=n1_;have BK321:=n2_;have BK322:=n3_;have HB:=n4_;clear n0_ n1_ n2_ n3_ n4_;(try clear hb);(try clear hb2);(try clear hk);(try clear hi)))
  (try simp only [Act.put,Sa_,Sb_,Sc_])
  go_cut [51] (fun v51 wc => ∃ (kq:Nat) (x51_8:Bool),v51=.bool x51_8∧Aside0 (laws_FnAssertions.j0 kq l0 t323 x51_8 1 2 (wrap64 (1 + t304)) t305 t309 t310 t311 t312 t313 t314 t315 t316 t317 t318 t319=some true)∧Aside0 (kq ≤ k)∧Aside0 (wc.heap[gb306]?=some (.cells #[.int .i64 1,.int .i64 2,.int .i64 (wrap64 (1 + t304)),.int .i64 t305] 26 (0,0)))∧Aside0 (wc.heap[gb307]?=some (.cells #[.bool true,.string (⟨#[119,119,119,46,98,97,110,107,46,99,111,109]⟩:ByteArray),.int .i64 443] 28 (0,0)))∧Aside0 (wc.heap[gb321]?=some (.cells #[.int .i64 t309,.int .i64 t310,.int .i64 t311,.int .i64 t312] 26 (0,0)))∧Aside0 (wc.heap[gb322]?=some (.cells #[.string t313,.string t314,.int .i64 t315,.int .i64 t316,.bool t317,.int .i64 t318,.int .i64 t319] 30 (0,0)))∧Aside0 (Below w.heap.size w wc))
  case first =>
   have H:=HC9.out;clear HC9
   by_cases c36:t320=true
   ·subst c36
    rw [if_pos rfl] at H
    replace H:=Option.bind_eq_some_iff.mp H;obtain ⟨t324,A370,H⟩:=H
    try dsimp only at H
    have A37:=Am10_ A370;clear A370;replace H:=Option.bind_eq_some_iff.mp H;obtain ⟨t325,A380,H⟩:=H
    try dsimp only at H
    have A38:=Am10_ A380;clear A380
    by_cases c39:t325=0
    ·rw [if_pos c39] at H
     have c39b0:(t325 == 0)=true:=beq_iff_eq.mpr c39;have c39b1:(t325 != 0)=false:=bne_eq_false_iff_eq.mpr c39;clear c39
     (first|rw [c39b0]|(simp only [i64_w,i32_w];rw [c39b0])|skip)
     have H':=Am10_ H;clear H
     try go_wp2
     replace BK306:=Am10_ (blk_drew BK306.out);replace BK307:=Am10_ (blk_drew BK307.out);replace BK321:=Am10_ (blk_drew BK321.out);replace BK322:=Am10_ (blk_drew BK322.out);replace HB:=Am10_ (below_drew1 HB.out);refine start_ (n:=20) (S:=fun w' => w'.cell? ⟨gb322,0,none⟩=some (.string t313)∧w'.cell? ⟨gb322,1,none⟩=some (.string t314)∧w'.cell? ⟨gb322,2,none⟩=some (.int .i64 t315)∧w'.cell? ⟨gb322,3,none⟩=some (.int .i64 t316)∧w'.cell? ⟨gb322,4,none⟩=some (.bool t317)∧w'.cell? ⟨gb322,5,none⟩=some (.int .i64 t318)∧w'.cell? ⟨gb322,6,none⟩=some (.int .i64 t319)∧w'.cell? ⟨gb306,0,none⟩=some (.int .i64 1)∧w'.cell? ⟨gb306,1,none⟩=some (.int .i64 2)∧w'.cell? ⟨gb306,2,none⟩=some (.int .i64 (wrap64 (1 + t304)))∧w'.cell? ⟨gb306,3,none⟩=some (.int .i64 t305)∧w'.cell? ⟨gb321,0,none⟩=some (.int .i64 t309)∧w'.cell? ⟨gb321,1,none⟩=some (.int .i64 t310)∧w'.cell? ⟨gb321,2,none⟩=some (.int .i64 t311)∧w'.cell? ⟨gb321,3,none⟩=some (.int .i64 t312)) (ds:=[]) M11_ (by kernel_rfl) rfl rfl ⟨q_ BK322 0 rfl,q_ BK322 1 rfl,q_ BK322 2 rfl,q_ BK322 3 rfl,q_ BK322 4 rfl,q_ BK322 5 rfl,q_ BK322 6 rfl,q_ BK306 0 rfl,q_ BK306 1 rfl,q_ BK306 2 rfl,q_ BK306 3 rfl,q_ BK321 0 rfl,q_ BK321 1 rfl,q_ BK321 2 rfl,q_ BK321 3 rfl⟩ (fun hHeld => ?_);refine with_tabW laws_FnAssertions.tab7 laws_FnAssertions.bits7 (fun HT_ HW_ => ?_);generalize w35.drew=w40 at BK306 BK307 BK321 BK322 HB hHeld ⊢;refine pure_ (i:=0) (N:=some 32) (v:=?_) (a':=?_) M12_ rfl rfl (any_of HT_.out (by kernel_rfl)) (fun _ _ _ h => h) (Or.inl ⟨by rfl,?_⟩) ?_ ?_;rotate_left
     ·intro w'
      go_simp
      with_reducible rfl
     rotate_left
     ·simp only [Act.put,Sa_,Sb_,Sc_,i64_w,i32_w]
      rfl
     refine pure_ (i:=1) (N:=some 33) (v:=?_) (a':=?_) M13_ rfl rfl (any_of HT_.out (by kernel_rfl)) (fun _ _ _ h => h) (Or.inl ⟨by rfl,?_⟩) ?_ ?_;rotate_left
     ·intro w'
      go_simp
      with_reducible rfl
     rotate_left
     ·simp only [Act.put,Sa_,Sb_,Sc_,i64_w,i32_w]
      rfl
     refine pure_ (i:=2) (N:=some 34) (v:=?_) (a':=?_) M14_ rfl rfl (any_of HT_.out (by kernel_rfl)) (fun _ _ _ h => h) (Or.inl ⟨by rfl,?_⟩) ?_ ?_;rotate_left
     ·intro w'
      go_simp
      with_reducible rfl
     rotate_left
     ·simp only [Act.put,Sa_,Sb_,Sc_,i64_w,i32_w]
      rfl
     refine pure_ (i:=3) (N:=some 35) (v:=?_) (a':=?_) M15_ rfl rfl (any_of HT_.out (by kernel_rfl)) (fun _ _ _ h => h) (Or.inl ⟨by rfl,?_⟩) ?_ ?_;rotate_left
     ·intro w'
      go_simp
      with_reducible rfl
     rotate_left
     ·simp only [Act.put,Sa_,Sb_,Sc_,i64_w,i32_w]
      rfl
     refine pure_ (i:=5) (N:=some 37) (v:=?_) (a':=?_) M16_ rfl rfl (any_of HT_.out (by kernel_rfl)) (fun _ _ _ h => h) (Or.inl ⟨by rfl,?_⟩) ?_ ?_;rotate_left
     ·intro w'
      go_simp
      with_reducible rfl
     rotate_left
     ·simp only [Act.put,Sa_,Sb_,Sc_,i64_w,i32_w]
      rfl
     refine pure_ (i:=7) (N:=some 39) (v:=?_) (a':=?_) M17_ rfl rfl (any_of HT_.out (by kernel_rfl)) (fun _ _ _ h => h) (Or.inl ⟨by rfl,?_⟩) ?_ ?_;rotate_left
     ·intro w'
      go_simp
      with_reducible rfl
     rotate_left
     ·simp only [Act.put,Sa_,Sb_,Sc_,i64_w,i32_w]
      rfl
     refine take_ (i:=4) (N:=some 36) (v:=?_) (a':=?_) M18_ rfl rfl (take_ofW HT_.out HW_.out (by kernel_rfl)) (fun _ _ _ h => h) (Or.inl ⟨by rfl,?_⟩) hHeld ?_ ?_;rotate_left
     ·rintro w' ⟨s0,s1,s2,s3,s4,s5,s6,s7,s8,s9,s10,s11,s12,s13,s14⟩
      go_simp
      with_reducible rfl
     rotate_left
     ·simp only [Act.put,Sa_,Sb_,Sc_,i64_w,i32_w]
      rfl
     refine take_ (i:=8) (N:=some 40) (v:=?_) (a':=?_) M19_ rfl rfl (take_ofW HT_.out HW_.out (by kernel_rfl)) (fun _ _ _ h => h) (Or.inl ⟨by rfl,?_⟩) hHeld ?_ ?_;rotate_left
     ·rintro w' ⟨s0,s1,s2,s3,s4,s5,s6,s7,s8,s9,s10,s11,s12,s13,s14⟩
      go_simp
      with_reducible rfl
     rotate_left
     ·simp only [Act.put,Sa_,Sb_,Sc_,i64_w,i32_w]
      rfl
     refine one_ (i:=6) (N:=some 38) M20_ rfl rfl (one_of HT_.out (by kernel_rfl)) (by decide) (fun K hK => ?_);refine goes_ Tryz.func8 (by kernel_rfl) rfl #[.slice A0 l0.length c0,.int .i64 2] (by rfl) rfl rfl (by (try simp only [Sd_,Se_,Sf_]);first|done|rfl|(simp only [Sg_,Sh_];rfl)) ?_;with_reducible refine (laws_at.calls _ _ l0 2 t324 _ ?side1 ?side2 A37.out).mono ?_
     (case side1 => repeat (first|exact (Kd.C_below HR0.out HB.out)|(with_reducible refine Kd.C_alloc ?_ _)|(with_reducible refine Kd.C_drewN ?_ _)|(with_reducible refine Kd.C_drew ?_)))
     (case side2 => exact HC0.out)
     rintro e w' ⟨rfl,⟨nd,rfl⟩⟩;refine ⟨_,rfl,?_⟩;refine hK.out _ _ ⟨q_ BK322 0 rfl,q_ BK322 1 rfl,q_ BK322 2 rfl,q_ BK322 3 rfl,q_ BK322 4 rfl,q_ BK322 5 rfl,q_ BK322 6 rfl,q_ BK306 0 rfl,q_ BK306 1 rfl,q_ BK306 2 rfl,q_ BK306 3 rfl,q_ BK321 0 rfl,q_ BK321 1 rfl,q_ BK321 2 rfl,q_ BK321 3 rfl⟩ (fun hHeld => ?_);clear hK K;refine norm_ (a':=?_) ?_ ?_;rotate_left
     ·show Act.put _ (some 38) _=_
      simp only [Act.put,Sa_,Sb_,Sc_,i64_w,i32_w]
      rfl
     refine one_ (i:=9) (N:=some 41) M21_ rfl rfl (one_of HT_.out (by kernel_rfl)) (by decide) (fun K hK => ?_);refine goes_ Tryz.func11 (by kernel_rfl) rfl #[.int .i64 t323,.agg #[.string t313,.string t314,.int .i64 t315,.int .i64 t316,.bool t317,.int .i64 t318,.int .i64 t319],.string (⟨#[98,97,110,107,46,99,111,109]⟩:ByteArray),.int .i64 t324,.int .i64 t305] (by rfl) rfl rfl (by (try simp only [Sd_,Se_,Sf_]);first|done|rfl|(simp only [Sg_,Sh_];rfl)) ?_;with_reducible refine (impl_CheckAssertion.calls (ht_:=Man.tab_on HT.out (xe_ HB)) k t323 t313 t314 t315 t316 t317 t318 t319 (⟨#[98,97,110,107,46,99,111,109]⟩:ByteArray) t324 t305 t325 _ A38.out).mono ?_;rintro e w41 ⟨rfl,hb⟩;refine ⟨_,rfl,?_⟩;replace BK306:=bb_ BK306 hb;replace BK307:=bb_ BK307 hb;replace BK321:=bb_ BK321 hb;replace BK322:=bb_ BK322 hb;replace HB:=bs_ HB hb;(try clear hb);(try clear hb2);(try clear hk);(try clear hi);refine hK.out _ _ ⟨q_ BK322 0 rfl,q_ BK322 1 rfl,q_ BK322 2 rfl,q_ BK322 3 rfl,q_ BK322 4 rfl,q_ BK322 5 rfl,q_ BK322 6 rfl,q_ BK306 0 rfl,q_ BK306 1 rfl,q_ BK306 2 rfl,q_ BK306 3 rfl,q_ BK321 0 rfl,q_ BK321 1 rfl,q_ BK321 2 rfl,q_ BK321 3 rfl⟩ (fun hHeld => ?_);clear hK K;refine norm_ (a':=?_) ?_ ?_;rotate_left
     ·show Act.put _ (some 41) _=_
      simp only [Act.put,Sa_,Sb_,Sc_,i64_w,i32_w]
      rfl
     refine pure_ (i:=10) (N:=some 42) (v:=?_) (a':=?_) M22_ rfl rfl (any_of HT_.out (by kernel_rfl)) (fun _ _ _ h => h) (Or.inl ⟨by rfl,?_⟩) ?_ ?_;rotate_left
     ·intro w'
      go_simp
      with_reducible rfl
     rotate_left
     ·simp only [Act.put,Sa_,Sb_,Sc_,i64_w,i32_w]
      rfl
     refine pure_ (i:=11) (N:=some 43) (v:=?_) (a':=?_) M23_ rfl rfl (any_of HT_.out (by kernel_rfl)) (fun _ _ _ h => h) (Or.inl ⟨by rfl,?_⟩) ?_ ?_;rotate_left
     ·intro w'
      go_simp
      with_reducible rfl
     rotate_left
     ·simp only [Act.put,Sa_,Sb_,Sc_,i64_w,i32_w]
      rfl
     refine pure_ (i:=12) (N:=some 44) (v:=?_) (a':=?_) M24_ rfl rfl (any_of HT_.out (by kernel_rfl)) (fun _ _ _ h => h) (Or.inl ⟨by rfl,?_⟩) ?_ ?_;rotate_left
     ·intro w'
      go_simp
      with_reducible rfl
     rotate_left
     ·simp only [Act.put,Sa_,Sb_,Sc_,i64_w,i32_w]
      rfl
     refine pure_ (i:=13) (N:=some 45) (v:=?_) (a':=?_) M25_ rfl rfl (any_of HT_.out (by kernel_rfl)) (fun _ _ _ h => h) (Or.inl ⟨by rfl,?_⟩) ?_ ?_;rotate_left
     ·intro w'
      go_simp
      with_reducible rfl
     rotate_left
     ·simp only [Act.put,Sa_,Sb_,Sc_,i64_w,i32_w]
      rfl
     refine pure_ (i:=15) (N:=some 47) (v:=?_) (a':=?_) #[true,true,true,true,true,true,true,true,true,true,true,true,true,true,false,true,false,false,false,false] rfl rfl (any_of HT_.out (by kernel_rfl)) (fun _ _ _ h => h) (Or.inl ⟨by rfl,?_⟩) ?_ ?_;rotate_left
     ·intro w'
      go_simp
      with_reducible rfl
     rotate_left
     ·simp only [Act.put,Sa_,Sb_,Sc_,i64_w,i32_w]
      rfl
     refine take_ (i:=14) (N:=some 46) (v:=?_) (a':=?_) M26_ rfl rfl (take_ofW HT_.out HW_.out (by kernel_rfl)) (fun _ _ _ h => h) (Or.inl ⟨by rfl,?_⟩) hHeld ?_ ?_;rotate_left
     ·rintro w' ⟨s0,s1,s2,s3,s4,s5,s6,s7,s8,s9,s10,s11,s12,s13,s14⟩
      go_simp
      with_reducible rfl
     rotate_left
     ·simp only [Act.put,Sa_,Sb_,Sc_,i64_w,i32_w]
      rfl
     refine take_ (i:=16) (N:=some 48) (v:=?_) (a':=?_) M27_ rfl rfl (take_ofW HT_.out HW_.out (by kernel_rfl)) (fun _ _ _ h => h) (Or.inl ⟨by rfl,?_⟩) hHeld ?_ ?_;rotate_left
     ·rintro w' ⟨s0,s1,s2,s3,s4,s5,s6,s7,s8,s9,s10,s11,s12,s13,s14⟩
      go_simp
      with_reducible rfl
     rotate_left
     ·simp only [Act.put,Sa_,Sb_,Sc_,i64_w,i32_w]
      rfl
     refine pure_ (i:=17) (N:=some 49) (v:=?_) (a':=?_) M28_ rfl rfl (any_of HT_.out (by kernel_rfl)) (fun _ _ _ h => h) (Or.inl ⟨by rfl,?_⟩) ?_ ?_;rotate_left
     ·intro w'
      go_simp
      with_reducible rfl
     rotate_left
     ·simp only [Act.put,Sa_,Sb_,Sc_,i64_w,i32_w]
      rfl
     refine pure_ (i:=18) (N:=some 50) (v:=?_) (a':=?_) M29_ rfl rfl (any_of HT_.out (by kernel_rfl)) (fun _ _ _ h => h) (Or.inl ⟨by rfl,?_⟩) ?_ ?_;rotate_left
     ·intro w'
      go_simp
      with_reducible rfl
     rotate_left
     ·simp only [Act.put,Sa_,Sb_,Sc_,i64_w,i32_w]
      rfl
     refine pure_ (i:=19) (N:=some 51) (v:=?_) (a':=?_) M30_ rfl rfl (any_of HT_.out (by kernel_rfl)) (fun _ _ _ h => h) (Or.inl ⟨by rfl,?_⟩) ?_ ?_;rotate_left
     ·intro w'
      go_simp
      with_reducible rfl
     rotate_left
     ·simp only [Act.put,Sa_,Sb_,Sc_,i64_w,i32_w]
      rfl
     refine done_ (done_of HT_.out (by kernel_rfl)) ?_
     try go_wp2
     go_meet
     case rel => exact ⟨_,((t312 != (wrap64 (t305 + 1)))),(by first|rfl|(simp;done)|(simp [*];done)),H',⟨by first|omega|exact Nat.le_refl _⟩,⟨by (with_reducible repeat (first|refine blk_drewN ?_ _|refine blk_drew ?_|refine blk_alloc ?_ _));exact BK306.out⟩,⟨by (with_reducible repeat (first|refine blk_drewN ?_ _|refine blk_drew ?_|refine blk_alloc ?_ _));exact BK307.out⟩,⟨by (with_reducible repeat (first|refine blk_drewN ?_ _|refine blk_drew ?_|refine blk_alloc ?_ _));exact BK321.out⟩,⟨by (with_reducible repeat (first|refine blk_drewN ?_ _|refine blk_drew ?_|refine blk_alloc ?_ _));exact BK322.out⟩,⟨by repeat (first|(with_reducible first|exact HB.out|apply below_alloc|apply pw_below_drewN|apply below_drew1|refine below_set ?_ GE306.out|refine below_set ?_ GE307.out|refine below_set ?_ GE321.out|refine below_set ?_ GE322.out)|exact HB.out)⟩⟩
    ·rw [if_neg c39] at H
     have c39b0:(t325 == 0)=false:=beq_eq_false_iff_ne.mpr c39;have c39b1:(t325 != 0)=true:=bne_iff_ne.mpr c39
     (first|rw [c39b0]|(simp only [i64_w,i32_w];rw [c39b0])|skip)
     have H':=Am10_ H;clear H
     try go_wp2
     replace BK306:=Am10_ (blk_drew BK306.out);replace BK307:=Am10_ (blk_drew BK307.out);replace BK321:=Am10_ (blk_drew BK321.out);replace BK322:=Am10_ (blk_drew BK322.out);replace HB:=Am10_ (below_drew1 HB.out);refine start_ (n:=20) (S:=fun w' => w'.cell? ⟨gb322,0,none⟩=some (.string t313)∧w'.cell? ⟨gb322,1,none⟩=some (.string t314)∧w'.cell? ⟨gb322,2,none⟩=some (.int .i64 t315)∧w'.cell? ⟨gb322,3,none⟩=some (.int .i64 t316)∧w'.cell? ⟨gb322,4,none⟩=some (.bool t317)∧w'.cell? ⟨gb322,5,none⟩=some (.int .i64 t318)∧w'.cell? ⟨gb322,6,none⟩=some (.int .i64 t319)∧w'.cell? ⟨gb306,0,none⟩=some (.int .i64 1)∧w'.cell? ⟨gb306,1,none⟩=some (.int .i64 2)∧w'.cell? ⟨gb306,2,none⟩=some (.int .i64 (wrap64 (1 + t304)))∧w'.cell? ⟨gb306,3,none⟩=some (.int .i64 t305)) (ds:=[]) M11_ (by kernel_rfl) rfl rfl ⟨q_ BK322 0 rfl,q_ BK322 1 rfl,q_ BK322 2 rfl,q_ BK322 3 rfl,q_ BK322 4 rfl,q_ BK322 5 rfl,q_ BK322 6 rfl,q_ BK306 0 rfl,q_ BK306 1 rfl,q_ BK306 2 rfl,q_ BK306 3 rfl⟩ (fun hHeld => ?_);refine with_tabW laws_FnAssertions.tab7 laws_FnAssertions.bits7 (fun HT_ HW_ => ?_);generalize w35.drew=w42 at BK306 BK307 BK321 BK322 HB hHeld ⊢;refine pure_ (i:=0) (N:=some 32) (v:=?_) (a':=?_) M12_ rfl rfl (any_of HT_.out (by kernel_rfl)) (fun _ _ _ h => h) (Or.inl ⟨by rfl,?_⟩) ?_ ?_;rotate_left
     ·intro w'
      go_simp
      with_reducible rfl
     rotate_left
     ·simp only [Act.put,Sa_,Sb_,Sc_,i64_w,i32_w]
      rfl
     refine pure_ (i:=1) (N:=some 33) (v:=?_) (a':=?_) M13_ rfl rfl (any_of HT_.out (by kernel_rfl)) (fun _ _ _ h => h) (Or.inl ⟨by rfl,?_⟩) ?_ ?_;rotate_left
     ·intro w'
      go_simp
      with_reducible rfl
     rotate_left
     ·simp only [Act.put,Sa_,Sb_,Sc_,i64_w,i32_w]
      rfl
     refine pure_ (i:=2) (N:=some 34) (v:=?_) (a':=?_) M14_ rfl rfl (any_of HT_.out (by kernel_rfl)) (fun _ _ _ h => h) (Or.inl ⟨by rfl,?_⟩) ?_ ?_;rotate_left
     ·intro w'
      go_simp
      with_reducible rfl
     rotate_left
     ·simp only [Act.put,Sa_,Sb_,Sc_,i64_w,i32_w]
      rfl
     refine pure_ (i:=3) (N:=some 35) (v:=?_) (a':=?_) M15_ rfl rfl (any_of HT_.out (by kernel_rfl)) (fun _ _ _ h => h) (Or.inl ⟨by rfl,?_⟩) ?_ ?_;rotate_left
     ·intro w'
      go_simp
      with_reducible rfl
     rotate_left
     ·simp only [Act.put,Sa_,Sb_,Sc_,i64_w,i32_w]
      rfl
     refine pure_ (i:=5) (N:=some 37) (v:=?_) (a':=?_) M16_ rfl rfl (any_of HT_.out (by kernel_rfl)) (fun _ _ _ h => h) (Or.inl ⟨by rfl,?_⟩) ?_ ?_;rotate_left
     ·intro w'
      go_simp
      with_reducible rfl
     rotate_left
     ·simp only [Act.put,Sa_,Sb_,Sc_,i64_w,i32_w]
      rfl
     refine pure_ (i:=7) (N:=some 39) (v:=?_) (a':=?_) M17_ rfl rfl (any_of HT_.out (by kernel_rfl)) (fun _ _ _ h => h) (Or.inl ⟨by rfl,?_⟩) ?_ ?_;rotate_left
     ·intro w'
      go_simp
      with_reducible rfl
     rotate_left
     ·simp only [Act.put,Sa_,Sb_,Sc_,i64_w,i32_w]
      rfl
     refine take_ (i:=4) (N:=some 36) (v:=?_) (a':=?_) M18_ rfl rfl (take_ofW HT_.out HW_.out (by kernel_rfl)) (fun _ _ _ h => h) (Or.inl ⟨by rfl,?_⟩) hHeld ?_ ?_;rotate_left
     ·rintro w' ⟨s0,s1,s2,s3,s4,s5,s6,s7,s8,s9,s10⟩
      go_simp
      with_reducible rfl
     rotate_left
     ·simp only [Act.put,Sa_,Sb_,Sc_,i64_w,i32_w]
      rfl
     refine take_ (i:=8) (N:=some 40) (v:=?_) (a':=?_) M19_ rfl rfl (take_ofW HT_.out HW_.out (by kernel_rfl)) (fun _ _ _ h => h) (Or.inl ⟨by rfl,?_⟩) hHeld ?_ ?_;rotate_left
     ·rintro w' ⟨s0,s1,s2,s3,s4,s5,s6,s7,s8,s9,s10⟩
      go_simp
      with_reducible rfl
     rotate_left
     ·simp only [Act.put,Sa_,Sb_,Sc_,i64_w,i32_w]
      rfl
     refine one_ (i:=6) (N:=some 38) M20_ rfl rfl (one_of HT_.out (by kernel_rfl)) (by decide) (fun K hK => ?_);refine goes_ Tryz.func8 (by kernel_rfl) rfl #[.slice A0 l0.length c0,.int .i64 2] (by rfl) rfl rfl (by (try simp only [Sd_,Se_,Sf_]);first|done|rfl|(simp only [Sg_,Sh_];rfl)) ?_;with_reducible refine (laws_at.calls _ _ l0 2 t324 _ ?side1 ?side2 A37.out).mono ?_
     (case side1 => repeat (first|exact (Kd.C_below HR0.out HB.out)|(with_reducible refine Kd.C_alloc ?_ _)|(with_reducible refine Kd.C_drewN ?_ _)|(with_reducible refine Kd.C_drew ?_)))
     (case side2 => exact HC0.out)
     rintro e w' ⟨rfl,⟨nd,rfl⟩⟩;refine ⟨_,rfl,?_⟩;refine hK.out _ _ ⟨q_ BK322 0 rfl,q_ BK322 1 rfl,q_ BK322 2 rfl,q_ BK322 3 rfl,q_ BK322 4 rfl,q_ BK322 5 rfl,q_ BK322 6 rfl,q_ BK306 0 rfl,q_ BK306 1 rfl,q_ BK306 2 rfl,q_ BK306 3 rfl⟩ (fun hHeld => ?_);clear hK K;refine norm_ (a':=?_) ?_ ?_;rotate_left
     ·show Act.put _ (some 38) _=_
      simp only [Act.put,Sa_,Sb_,Sc_,i64_w,i32_w]
      rfl
     refine one_ (i:=9) (N:=some 41) M21_ rfl rfl (one_of HT_.out (by kernel_rfl)) (by decide) (fun K hK => ?_);refine goes_ Tryz.func11 (by kernel_rfl) rfl #[.int .i64 t323,.agg #[.string t313,.string t314,.int .i64 t315,.int .i64 t316,.bool t317,.int .i64 t318,.int .i64 t319],.string (⟨#[98,97,110,107,46,99,111,109]⟩:ByteArray),.int .i64 t324,.int .i64 t305] (by rfl) rfl rfl (by (try simp only [Sd_,Se_,Sf_]);first|done|rfl|(simp only [Sg_,Sh_];rfl)) ?_;with_reducible refine (impl_CheckAssertion.calls (ht_:=Man.tab_on HT.out (xe_ HB)) k t323 t313 t314 t315 t316 t317 t318 t319 (⟨#[98,97,110,107,46,99,111,109]⟩:ByteArray) t324 t305 t325 _ A38.out).mono ?_;rintro e w43 ⟨rfl,hb⟩;refine ⟨_,rfl,?_⟩;replace BK306:=bb_ BK306 hb;replace BK307:=bb_ BK307 hb;replace BK321:=bb_ BK321 hb;replace BK322:=bb_ BK322 hb;replace HB:=bs_ HB hb;(try clear hb);(try clear hb2);(try clear hk);(try clear hi);refine hK.out _ _ ⟨q_ BK322 0 rfl,q_ BK322 1 rfl,q_ BK322 2 rfl,q_ BK322 3 rfl,q_ BK322 4 rfl,q_ BK322 5 rfl,q_ BK322 6 rfl,q_ BK306 0 rfl,q_ BK306 1 rfl,q_ BK306 2 rfl,q_ BK306 3 rfl⟩ (fun hHeld => ?_);clear hK K;refine norm_ (a':=?_) ?_ ?_;rotate_left
     ·show Act.put _ (some 41) _=_
      simp only [Act.put,Sa_,Sb_,Sc_,i64_w,i32_w]
      rfl
     refine pure_ (i:=10) (N:=some 42) (v:=?_) (a':=?_) M22_ rfl rfl (any_of HT_.out (by kernel_rfl)) (fun _ _ _ h => h) (Or.inl ⟨by rfl,?_⟩) ?_ ?_;rotate_left
     ·intro w'
      go_simp
      with_reducible rfl
     rotate_left
     ·simp only [Act.put,Sa_,Sb_,Sc_,i64_w,i32_w]
      rfl
     refine pure_ (i:=11) (N:=some 43) (v:=?_) (a':=?_) M23_ rfl rfl (any_of HT_.out (by kernel_rfl)) (fun _ _ _ h => h) (Or.inl ⟨by rfl,?_⟩) ?_ ?_;rotate_left
     ·intro w'
      go_simp
      with_reducible rfl
     rotate_left
     ·simp only [Act.put,Sa_,Sb_,Sc_,i64_w,i32_w]
      rfl
     refine pure_ (i:=12) (N:=some 44) (v:=?_) (a':=?_) M24_ rfl rfl (any_of HT_.out (by kernel_rfl)) (fun _ _ _ h => h) (Or.inl ⟨by rfl,?_⟩) ?_ ?_;rotate_left
     ·intro w'
      go_simp
      with_reducible rfl
     rotate_left
     ·simp only [Act.put,Sa_,Sb_,Sc_,i64_w,i32_w]
      rfl
     refine pure_ (i:=13) (N:=some 45) (v:=undef) (a':=?_) M25_ rfl rfl (any_of HT_.out (by kernel_rfl)) (fun _ _ _ h => h) (Or.inr ⟨by rfl,rfl⟩) ?_ ?_;rotate_left
     ·simp only [Act.put,Sa_,Sb_,Sc_,i64_w,i32_w]
      rfl
     refine pure_ (i:=14) (N:=some 46) (v:=undef) (a':=?_) M31_ rfl rfl (any_of HT_.out (by kernel_rfl)) (fun _ _ _ h => h) (Or.inr ⟨by rfl,rfl⟩) ?_ ?_;rotate_left
     ·simp only [Act.put,Sa_,Sb_,Sc_,i64_w,i32_w]
      rfl
     refine pure_ (i:=15) (N:=some 47) (v:=undef) (a':=?_) M26_ rfl rfl (any_of HT_.out (by kernel_rfl)) (fun _ _ _ h => h) (Or.inr ⟨by rfl,rfl⟩) ?_ ?_;rotate_left
     ·simp only [Act.put,Sa_,Sb_,Sc_,i64_w,i32_w]
      rfl
     refine pure_ (i:=16) (N:=some 48) (v:=undef) (a':=?_) M27_ rfl rfl (any_of HT_.out (by kernel_rfl)) (fun _ _ _ h => h) (Or.inr ⟨by rfl,rfl⟩) ?_ ?_;rotate_left
     ·simp only [Act.put,Sa_,Sb_,Sc_,i64_w,i32_w]
      rfl
     refine pure_ (i:=17) (N:=some 49) (v:=undef) (a':=?_) M28_ rfl rfl (any_of HT_.out (by kernel_rfl)) (fun _ _ _ h => h) (Or.inr ⟨by rfl,rfl⟩) ?_ ?_;rotate_left
     ·simp only [Act.put,Sa_,Sb_,Sc_,i64_w,i32_w]
      rfl
     refine pure_ (i:=18) (N:=some 50) (v:=undef) (a':=?_) M29_ rfl rfl (any_of HT_.out (by kernel_rfl)) (fun _ _ _ h => h) (Or.inr ⟨by rfl,rfl⟩) ?_ ?_;rotate_left
     ·simp only [Act.put,Sa_,Sb_,Sc_,i64_w,i32_w]
      rfl
     refine pure_ (i:=19) (N:=some 51) (v:=?_) (a':=?_) M30_ rfl rfl (any_of HT_.out (by kernel_rfl)) (fun _ _ _ h => h) (Or.inl ⟨by rfl,?_⟩) ?_ ?_;rotate_left
     ·intro w'
      go_simp
      with_reducible rfl
     rotate_left
     ·simp only [Act.put,Sa_,Sb_,Sc_,i64_w,i32_w]
      rfl
     refine done_ (done_of HT_.out (by kernel_rfl)) ?_
     try go_wp2
     go_meet
     case rel => exact ⟨_,(true),(by first|rfl|(simp;done)|(simp [*];done)),H',⟨by first|omega|exact Nat.le_refl _⟩,⟨by (with_reducible repeat (first|refine blk_drewN ?_ _|refine blk_drew ?_|refine blk_alloc ?_ _));exact BK306.out⟩,⟨by (with_reducible repeat (first|refine blk_drewN ?_ _|refine blk_drew ?_|refine blk_alloc ?_ _));exact BK307.out⟩,⟨by (with_reducible repeat (first|refine blk_drewN ?_ _|refine blk_drew ?_|refine blk_alloc ?_ _));exact BK321.out⟩,⟨by (with_reducible repeat (first|refine blk_drewN ?_ _|refine blk_drew ?_|refine blk_alloc ?_ _));exact BK322.out⟩,⟨by repeat (first|(with_reducible first|exact HB.out|apply below_alloc|apply pw_below_drewN|apply below_drew1|refine below_set ?_ GE306.out|refine below_set ?_ GE307.out|refine below_set ?_ GE321.out|refine below_set ?_ GE322.out)|exact HB.out)⟩⟩
   ·replace c36:=Bool.eq_false_iff.mpr c36;subst c36
    rw [if_neg (show ¬ (false=true) by decide)] at H
    have H':=Am10_ H;clear H
    try go_wp2
    replace BK306:=Am10_ (blk_drew BK306.out);replace BK307:=Am10_ (blk_drew BK307.out);replace BK321:=Am10_ (blk_drew BK321.out);replace BK322:=Am10_ (blk_drew BK322.out);replace HB:=Am10_ (below_drew1 HB.out);refine start_ (n:=20) (S:=fun w' => True) (ds:=[]) M11_ (by kernel_rfl) rfl rfl trivial (fun hHeld => ?_);refine with_tabW laws_FnAssertions.tab7 laws_FnAssertions.bits7 (fun HT_ HW_ => ?_);generalize w35.drew=w44 at BK306 BK307 BK321 BK322 HB hHeld ⊢;refine pure_ (i:=0) (N:=some 32) (v:=?_) (a':=?_) M12_ rfl rfl (any_of HT_.out (by kernel_rfl)) (fun _ _ _ h => h) (Or.inl ⟨by rfl,?_⟩) ?_ ?_;rotate_left
    ·intro w'
     go_simp
     with_reducible rfl
    rotate_left
    ·simp only [Act.put,Sa_,Sb_,Sc_,i64_w,i32_w]
     rfl
    refine pure_ (i:=1) (N:=some 33) (v:=?_) (a':=?_) M13_ rfl rfl (any_of HT_.out (by kernel_rfl)) (fun _ _ _ h => h) (Or.inl ⟨by rfl,?_⟩) ?_ ?_;rotate_left
    ·intro w'
     go_simp
     with_reducible rfl
    rotate_left
    ·simp only [Act.put,Sa_,Sb_,Sc_,i64_w,i32_w]
     rfl
    refine pure_ (i:=2) (N:=some 34) (v:=?_) (a':=?_) M14_ rfl rfl (any_of HT_.out (by kernel_rfl)) (fun _ _ _ h => h) (Or.inl ⟨by rfl,?_⟩) ?_ ?_;rotate_left
    ·intro w'
     go_simp
     with_reducible rfl
    rotate_left
    ·simp only [Act.put,Sa_,Sb_,Sc_,i64_w,i32_w]
     rfl
    refine pure_ (i:=3) (N:=some 35) (v:=undef) (a':=?_) M15_ rfl rfl (any_of HT_.out (by kernel_rfl)) (fun _ _ _ h => h) (Or.inr ⟨by rfl,rfl⟩) ?_ ?_;rotate_left
    ·simp only [Act.put,Sa_,Sb_,Sc_,i64_w,i32_w]
     rfl
    refine pure_ (i:=4) (N:=some 36) (v:=undef) (a':=?_) #[true,true,true,true,true,false,false,false,false,false,false,false,false,false,false,false,false,false,false,false] rfl rfl (any_of HT_.out (by kernel_rfl)) (fun _ _ _ h => h) (Or.inr ⟨by rfl,rfl⟩) ?_ ?_;rotate_left
    ·simp only [Act.put,Sa_,Sb_,Sc_,i64_w,i32_w]
     rfl
    refine pure_ (i:=5) (N:=some 37) (v:=undef) (a':=?_) #[true,true,true,true,true,true,false,false,false,false,false,false,false,false,false,false,false,false,false,false] rfl rfl (any_of HT_.out (by kernel_rfl)) (fun _ _ _ h => h) (Or.inr ⟨by rfl,rfl⟩) ?_ ?_;rotate_left
    ·simp only [Act.put,Sa_,Sb_,Sc_,i64_w,i32_w]
     rfl
    refine pure_ (i:=6) (N:=some 38) (v:=undef) (a':=?_) #[true,true,true,true,true,true,true,false,false,false,false,false,false,false,false,false,false,false,false,false] rfl rfl (any_of HT_.out (by kernel_rfl)) (fun _ _ _ h => h) (Or.inr ⟨by rfl,rfl⟩) ?_ ?_;rotate_left
    ·simp only [Act.put,Sa_,Sb_,Sc_,i64_w,i32_w]
     rfl
    refine pure_ (i:=7) (N:=some 39) (v:=undef) (a':=?_) #[true,true,true,true,true,true,true,true,false,false,false,false,false,false,false,false,false,false,false,false] rfl rfl (any_of HT_.out (by kernel_rfl)) (fun _ _ _ h => h) (Or.inr ⟨by rfl,rfl⟩) ?_ ?_;rotate_left
    ·simp only [Act.put,Sa_,Sb_,Sc_,i64_w,i32_w]
     rfl
    refine pure_ (i:=8) (N:=some 40) (v:=undef) (a':=?_) M20_ rfl rfl (any_of HT_.out (by kernel_rfl)) (fun _ _ _ h => h) (Or.inr ⟨by rfl,rfl⟩) ?_ ?_;rotate_left
    ·simp only [Act.put,Sa_,Sb_,Sc_,i64_w,i32_w]
     rfl
    refine pure_ (i:=9) (N:=some 41) (v:=undef) (a':=?_) M21_ rfl rfl (any_of HT_.out (by kernel_rfl)) (fun _ _ _ h => h) (Or.inr ⟨by rfl,rfl⟩) ?_ ?_;rotate_left
    ·simp only [Act.put,Sa_,Sb_,Sc_,i64_w,i32_w]
     rfl
    refine pure_ (i:=10) (N:=some 42) (v:=undef) (a':=?_) M22_ rfl rfl (any_of HT_.out (by kernel_rfl)) (fun _ _ _ h => h) (Or.inr ⟨by rfl,rfl⟩) ?_ ?_;rotate_left
    ·simp only [Act.put,Sa_,Sb_,Sc_,i64_w,i32_w]
     rfl
    refine pure_ (i:=11) (N:=some 43) (v:=?_) (a':=?_) M23_ rfl rfl (any_of HT_.out (by kernel_rfl)) (fun _ _ _ h => h) (Or.inl ⟨by rfl,?_⟩) ?_ ?_;rotate_left
    ·intro w'
     go_simp
     with_reducible rfl
    rotate_left
    ·simp only [Act.put,Sa_,Sb_,Sc_,i64_w,i32_w]
     rfl
    refine pure_ (i:=12) (N:=some 44) (v:=?_) (a':=?_) M24_ rfl rfl (any_of HT_.out (by kernel_rfl)) (fun _ _ _ h => h) (Or.inl ⟨by rfl,?_⟩) ?_ ?_;rotate_left
    ·intro w'
     go_simp
     with_reducible rfl
    rotate_left
    ·simp only [Act.put,Sa_,Sb_,Sc_,i64_w,i32_w]
     rfl
    refine pure_ (i:=13) (N:=some 45) (v:=undef) (a':=?_) M25_ rfl rfl (any_of HT_.out (by kernel_rfl)) (fun _ _ _ h => h) (Or.inr ⟨by rfl,rfl⟩) ?_ ?_;rotate_left
    ·simp only [Act.put,Sa_,Sb_,Sc_,i64_w,i32_w]
     rfl
    refine pure_ (i:=14) (N:=some 46) (v:=undef) (a':=?_) M31_ rfl rfl (any_of HT_.out (by kernel_rfl)) (fun _ _ _ h => h) (Or.inr ⟨by rfl,rfl⟩) ?_ ?_;rotate_left
    ·simp only [Act.put,Sa_,Sb_,Sc_,i64_w,i32_w]
     rfl
    refine pure_ (i:=15) (N:=some 47) (v:=undef) (a':=?_) M26_ rfl rfl (any_of HT_.out (by kernel_rfl)) (fun _ _ _ h => h) (Or.inr ⟨by rfl,rfl⟩) ?_ ?_;rotate_left
    ·simp only [Act.put,Sa_,Sb_,Sc_,i64_w,i32_w]
     rfl
    refine pure_ (i:=16) (N:=some 48) (v:=undef) (a':=?_) M27_ rfl rfl (any_of HT_.out (by kernel_rfl)) (fun _ _ _ h => h) (Or.inr ⟨by rfl,rfl⟩) ?_ ?_;rotate_left
    ·simp only [Act.put,Sa_,Sb_,Sc_,i64_w,i32_w]
     rfl
    refine pure_ (i:=17) (N:=some 49) (v:=undef) (a':=?_) M28_ rfl rfl (any_of HT_.out (by kernel_rfl)) (fun _ _ _ h => h) (Or.inr ⟨by rfl,rfl⟩) ?_ ?_;rotate_left
    ·simp only [Act.put,Sa_,Sb_,Sc_,i64_w,i32_w]
     rfl
    refine pure_ (i:=18) (N:=some 50) (v:=undef) (a':=?_) M29_ rfl rfl (any_of HT_.out (by kernel_rfl)) (fun _ _ _ h => h) (Or.inr ⟨by rfl,rfl⟩) ?_ ?_;rotate_left
    ·simp only [Act.put,Sa_,Sb_,Sc_,i64_w,i32_w]
     rfl
    refine pure_ (i:=19) (N:=some 51) (v:=?_) (a':=?_) M30_ rfl rfl (any_of HT_.out (by kernel_rfl)) (fun _ _ _ h => h) (Or.inl ⟨by rfl,?_⟩) ?_ ?_;rotate_left
    ·intro w'
     go_simp
     with_reducible rfl
    rotate_left
    ·simp only [Act.put,Sa_,Sb_,Sc_,i64_w,i32_w]
     rfl
    refine done_ (done_of HT_.out (by kernel_rfl)) ?_
    try go_wp2
    go_meet
    case rel => exact ⟨_,(true),(by first|rfl|(simp;done)|(simp [*];done)),H',⟨by first|omega|exact Nat.le_refl _⟩,⟨by (with_reducible repeat (first|refine blk_drewN ?_ _|refine blk_drew ?_|refine blk_alloc ?_ _));exact BK306.out⟩,⟨by (with_reducible repeat (first|refine blk_drewN ?_ _|refine blk_drew ?_|refine blk_alloc ?_ _));exact BK307.out⟩,⟨by (with_reducible repeat (first|refine blk_drewN ?_ _|refine blk_drew ?_|refine blk_alloc ?_ _));exact BK321.out⟩,⟨by (with_reducible repeat (first|refine blk_drewN ?_ _|refine blk_drew ?_|refine blk_alloc ?_ _));exact BK322.out⟩,⟨by repeat (first|(with_reducible first|exact HB.out|apply below_alloc|apply pw_below_drewN|apply below_drew1|refine below_set ?_ GE306.out|refine below_set ?_ GE307.out|refine below_set ?_ GE321.out|refine below_set ?_ GE322.out)|exact HB.out)⟩⟩
  case rest =>
   clear HC9
   try clear c1
   try clear p2
   try clear c3
   try clear p6
   try clear c8
   try clear c10
   try clear c11
   try clear c32
   try clear c33
   try clear c36
   try clear c39
   try clear c39b0
   try clear c39b1
   try clear hcz34_0
   try clear hcz34_1
   try clear hcz34_2
   try clear hcz34_3
   try clear hfz34_0
   try clear hfz34_1
   try clear hfz34_2
   try clear hfz34_3
   obtain ⟨kq,x51_8,rfl,HA,HJ8,BK306,BK307,BK321,BK322,HB⟩:=hcut
   cases kq with
  |zero => exact absurd HA.out (by simp [laws_FnAssertions.j0])
  |succ kj8 =>
    have H:=HA.out;clear HA;simp only [laws_FnAssertions.j0] at H
    by_cases c45:x51_8=true
    ·subst c45
     rw [if_pos rfl] at H
     exact absurd H (by simp)
    ·replace c45:=Bool.eq_false_iff.mpr c45;subst c45
     rw [if_neg (show ¬ (false=true) by decide)] at H
     replace H:=Option.bind_eq_some_iff.mp H;obtain ⟨t329,A460,H⟩:=H
     try dsimp only at H
     have A46:=Am10_ A460;clear A460;replace H:=Option.bind_eq_some_iff.mp H;obtain ⟨t330,A470,H⟩:=H
     try dsimp only at H
     have A47:=Am10_ A470;clear A470
     by_cases c48:t330=3
     ·rw [if_pos c48] at H
      have c48b0:(t330 == 3)=true:=beq_iff_eq.mpr c48;have c48b1:(t330 != 3)=false:=bne_eq_false_iff_eq.mpr c48;clear c48;replace H:=Option.bind_eq_some_iff.mp H;obtain ⟨t331,A490,H⟩:=H
      try dsimp only at H
      have A49:=Am10_ A490;clear A490;replace H:=Option.bind_eq_some_iff.mp H;obtain ⟨t332,A500,H⟩:=H
      try dsimp only at H
      have A50:=Am10_ A500;clear A500
      by_cases c51:t332=1
      ·rw [if_pos c51] at H
       have c51b0:(t332 == 1)=true:=beq_iff_eq.mpr c51;have c51b1:(t332 != 1)=false:=bne_eq_false_iff_eq.mpr c51;clear c51;replace H:=Option.bind_eq_some_iff.mp H;obtain ⟨t333,A520,H⟩:=H
       try dsimp only at H
       have A52:=Am10_ A520;clear A520;replace H:=Option.bind_eq_some_iff.mp H;obtain ⟨t334,A530,H⟩:=H
       try dsimp only at H
       have A53:=Am10_ A530;clear A530
       by_cases c54:t334=4
       ·rw [if_pos c54] at H
        have c54b0:(t334 == 4)=true:=beq_iff_eq.mpr c54;have c54b1:(t334 != 4)=false:=bne_eq_false_iff_eq.mpr c54;clear c54;replace H:=Option.bind_eq_some_iff.mp H;obtain ⟨t335,A550,H⟩:=H
        try dsimp only at H
        have A55:=Am10_ A550;clear A550;replace H:=Option.bind_eq_some_iff.mp H;obtain ⟨t336,A560,H⟩:=H
        try dsimp only at H
        have A56:=Am10_ A560;clear A560
        by_cases c57:t336=2
        ·rw [if_pos c57] at H
         have c57b0:(t336 == 2)=true:=beq_iff_eq.mpr c57;have c57b1:(t336 != 2)=false:=bne_eq_false_iff_eq.mpr c57;clear c57;replace H:=Option.bind_eq_some_iff.mp H;obtain ⟨t337,A580,H⟩:=H
         try dsimp only at H
         have A58:=Am10_ A580;clear A580;replace H:=Option.bind_eq_some_iff.mp H;obtain ⟨t338,A590,H⟩:=H
         try dsimp only at H
         have A59:=Am10_ A590;clear A590
         by_cases c60:t338=5
         ·rw [if_pos c60] at H
          have c60b0:(t338 == 5)=true:=beq_iff_eq.mpr c60;have c60b1:(t338 != 5)=false:=bne_eq_false_iff_eq.mpr c60;clear c60;replace H:=Option.bind_eq_some_iff.mp H;obtain ⟨t339,A610,H⟩:=H
          try dsimp only at H
          have A61:=Am10_ A610;clear A610;replace H:=Option.bind_eq_some_iff.mp H;obtain ⟨t340,A620,H⟩:=H
          try dsimp only at H
          have A62:=Am10_ A620;clear A620
          by_cases c63:t340=5
          ·rw [if_pos c63] at H
           have c63b0:(t340 == 5)=true:=beq_iff_eq.mpr c63;have c63b1:(t340 != 5)=false:=bne_eq_false_iff_eq.mpr c63;clear c63;replace H:=Option.bind_eq_some_iff.mp H;obtain ⟨t341,A640,H⟩:=H
           try dsimp only at H
           have A64:=Am10_ A640;clear A640;replace H:=Option.bind_eq_some_iff.mp H;obtain ⟨t342,A650,H⟩:=H
           try dsimp only at H
           have A65:=Am10_ A650;clear A650;replace H:=Option.bind_eq_some_iff.mp H;obtain ⟨t343,A660,H⟩:=H
           try dsimp only at H
           have A66:=Am10_ A660;clear A660
           by_cases c67:t343=5
           ·rw [if_pos c67] at H
            have c67b0:(t343 == 5)=true:=beq_iff_eq.mpr c67;have c67b1:(t343 != 5)=false:=bne_eq_false_iff_eq.mpr c67;clear c67;replace H:=Option.bind_eq_some_iff.mp H;obtain ⟨t344,A680,H⟩:=H
            try dsimp only at H
            have A68:=Am10_ A680;clear A680
            by_cases c69:t344=true
            ·subst c69
             rw [if_pos rfl] at H
             replace H:=Option.bind_eq_some_iff.mp H;obtain ⟨t345,A700,H⟩:=H
             try dsimp only at H
             have A70:=Am10_ A700;clear A700;have Hr_:=Am10_ (Option.some.inj H);clear H;have hnb71:=NB322_306.out;have hnc71:=NB306_322.out;have hnb72:=NB322_307.out;have hnc72:=NB307_322.out;have hnb73:=NB322_321.out;have hnc73:=NB321_322.out;have hcz74_0:wc.cell? ⟨gb322,0,none⟩=some (.string t313):=q_ BK322 0 rfl;have hcz74_1:wc.cell? ⟨gb322,1,none⟩=some (.string t314):=q_ BK322 1 rfl;have hcz74_2:wc.cell? ⟨gb322,2,none⟩=some (.int .i64 t315):=q_ BK322 2 rfl;have hcz74_3:wc.cell? ⟨gb322,3,none⟩=some (.int .i64 t316):=q_ BK322 3 rfl;have hcz74_4:wc.cell? ⟨gb322,4,none⟩=some (.bool t317):=q_ BK322 4 rfl;have hcz74_5:wc.cell? ⟨gb322,5,none⟩=some (.int .i64 t318):=q_ BK322 5 rfl;have hcz74_6:wc.cell? ⟨gb322,6,none⟩=some (.int .i64 t319):=q_ BK322 6 rfl;have hfz74_0:=blk_frozen BK322.out 0;have hfz74_1:=blk_frozen BK322.out 1;have hfz74_2:=blk_frozen BK322.out 2;have hfz74_3:=blk_frozen BK322.out 3;have hfz74_4:=blk_frozen BK322.out 4;have hfz74_5:=blk_frozen BK322.out 5;have hfz74_6:=blk_frozen BK322.out 6
             try go_wp2_with (first|((with_reducible refine gate_dst (N:=9) rfl ?_);refine box_event ?hg (N:=9) ?hd (cs:=#[.string (⟨#[]⟩:ByteArray),.string (⟨#[]⟩:ByteArray),.int .i64 0,.int .i64 0,.bool false,.int .i64 0,.int .i64 0]) (t:=30) ?hr ?_;(case hd => rfl);(case hg => rfl);(case hr => first|(go_simp;done)|(go_simp;rfl));intro gb326 hg w75 hbox hb;have n0_:=Am10_ (blk_below (g:=gb306) (o:=.cells #[.int .i64 1,.int .i64 2,.int .i64 (wrap64 (1 + t304)),.int .i64 t305] 26 (0,0)) (by (with_reducible repeat (first|refine blk_drewN ?_ _|refine blk_drew ?_|refine blk_alloc ?_ _));exact BK306.out) hb);have n1_:=Am10_ (blk_below (g:=gb307) (o:=.cells #[.bool true,.string (⟨#[119,119,119,46,98,97,110,107,46,99,111,109]⟩:ByteArray),.int .i64 443] 28 (0,0)) (by (with_reducible repeat (first|refine blk_drewN ?_ _|refine blk_drew ?_|refine blk_alloc ?_ _));exact BK307.out) hb);have n2_:=Am10_ (blk_below (g:=gb321) (o:=.cells #[.int .i64 t309,.int .i64 t310,.int .i64 t311,.int .i64 t312] 26 (0,0)) (by (with_reducible repeat (first|refine blk_drewN ?_ _|refine blk_drew ?_|refine blk_alloc ?_ _));exact BK321.out) hb);have n3_:=Am10_ (blk_below (g:=gb322) (o:=.cells #[.string t313,.string t314,.int .i64 t315,.int .i64 t316,.bool t317,.int .i64 t318,.int .i64 t319] 30 (0,0)) (by (with_reducible repeat (first|refine blk_drewN ?_ _|refine blk_drew ?_|refine blk_alloc ?_ _));exact BK322.out) hb);have n4_:=Am10_ (below_step (by repeat (first|(with_reducible first|exact HB.out|apply below_alloc|apply pw_below_drewN|apply below_drew1|refine below_set ?_ GE306.out|refine below_set ?_ GE307.out|refine below_set ?_ GE321.out|refine below_set ?_ GE322.out)|exact HB.out)) hb);have n5_:=Am10_ (hbox);have n6_:=Am10_ ((by rw [hg];exact (below_size (by repeat (first|(with_reducible first|exact HB.out|apply below_alloc|apply pw_below_drewN|apply below_drew1|refine below_set ?_ GE306.out|refine below_set ?_ GE307.out|refine below_set ?_ GE321.out|refine below_set ?_ GE322.out)|exact HB.out))):w.heap.size ≤ gb326));have n7_:=Am10_ ((by rw [hg];exact (below_size (by repeat (first|(with_reducible first|exact HB.out|apply below_alloc|apply pw_below_drewN|apply below_drew1|refine below_set ?_ GE306.out|refine below_set ?_ GE307.out|refine below_set ?_ GE321.out|refine below_set ?_ GE322.out)|exact HB.out))):w.heap.size ≤ gb326));have n8_:=Am10_ ((by rw [hg];exact Nat.ne_of_lt (blk_lt (g:=gb306) (o:=.cells #[.int .i64 1,.int .i64 2,.int .i64 (wrap64 (1 + t304)),.int .i64 t305] 26 (0,0)) (by (with_reducible repeat (first|refine blk_drewN ?_ _|refine blk_drew ?_|refine blk_alloc ?_ _));exact BK306.out)):gb306 ≠ gb326));have n9_:=Am10_ ((by rw [hg];exact Nat.ne_of_gt (blk_lt (g:=gb306) (o:=.cells #[.int .i64 1,.int .i64 2,.int .i64 (wrap64 (1 + t304)),.int .i64 t305] 26 (0,0)) (by (with_reducible repeat (first|refine blk_drewN ?_ _|refine blk_drew ?_|refine blk_alloc ?_ _));exact BK306.out)):gb326 ≠ gb306));have n10_:=Am10_ ((by rw [hg];exact Nat.ne_of_lt (blk_lt (g:=gb307) (o:=.cells #[.bool true,.string (⟨#[119,119,119,46,98,97,110,107,46,99,111,109]⟩:ByteArray),.int .i64 443] 28 (0,0)) (by (with_reducible repeat (first|refine blk_drewN ?_ _|refine blk_drew ?_|refine blk_alloc ?_ _));exact BK307.out)):gb307 ≠ gb326));have n11_:=Am10_ ((by rw [hg];exact Nat.ne_of_gt (blk_lt (g:=gb307) (o:=.cells #[.bool true,.string (⟨#[119,119,119,46,98,97,110,107,46,99,111,109]⟩:ByteArray),.int .i64 443] 28 (0,0)) (by (with_reducible repeat (first|refine blk_drewN ?_ _|refine blk_drew ?_|refine blk_alloc ?_ _));exact BK307.out)):gb326 ≠ gb307));have n12_:=Am10_ ((by rw [hg];exact Nat.ne_of_lt (blk_lt (g:=gb321) (o:=.cells #[.int .i64 t309,.int .i64 t310,.int .i64 t311,.int .i64 t312] 26 (0,0)) (by (with_reducible repeat (first|refine blk_drewN ?_ _|refine blk_drew ?_|refine blk_alloc ?_ _));exact BK321.out)):gb321 ≠ gb326));have n13_:=Am10_ ((by rw [hg];exact Nat.ne_of_gt (blk_lt (g:=gb321) (o:=.cells #[.int .i64 t309,.int .i64 t310,.int .i64 t311,.int .i64 t312] 26 (0,0)) (by (with_reducible repeat (first|refine blk_drewN ?_ _|refine blk_drew ?_|refine blk_alloc ?_ _));exact BK321.out)):gb326 ≠ gb321));have n14_:=Am10_ ((by rw [hg];exact Nat.ne_of_lt (blk_lt (g:=gb322) (o:=.cells #[.string t313,.string t314,.int .i64 t315,.int .i64 t316,.bool t317,.int .i64 t318,.int .i64 t319] 30 (0,0)) (by (with_reducible repeat (first|refine blk_drewN ?_ _|refine blk_drew ?_|refine blk_alloc ?_ _));exact BK322.out)):gb322 ≠ gb326));have n15_:=Am10_ ((by rw [hg];exact Nat.ne_of_gt (blk_lt (g:=gb322) (o:=.cells #[.string t313,.string t314,.int .i64 t315,.int .i64 t316,.bool t317,.int .i64 t318,.int .i64 t319] 30 (0,0)) (by (with_reducible repeat (first|refine blk_drewN ?_ _|refine blk_drew ?_|refine blk_alloc ?_ _));exact BK322.out)):gb326 ≠ gb322));clear BK306;clear BK307;clear BK321;clear BK322;clear HB;have BK306:=n0_;have BK307:=n1_;have BK321:=n2_;have BK322:=n3_;have HB:=n4_;have BK326:=n5_;have GW326:=n6_;have GE326:=n7_;have NB306_326:=n8_;have NB326_306:=n9_;have NB307_326:=n10_;have NB326_307:=n11_;have NB321_326:=n12_;have NB326_321:=n13_;have NB322_326:=n14_;have NB326_322:=n15_;clear n0_ n1_ n2_ n3_ n4_ n5_ n6_ n7_ n8_ n9_ n10_ n11_ n12_ n13_ n14_ n15_;clear hb hbox hg;have hnb76:=NB326_306.out;have hnc76:=NB306_326.out;have hnb77:=NB326_307.out;have hnc77:=NB307_326.out;have hnb78:=NB326_321.out;have hnc78:=NB321_326.out;have hnb79:=NB326_322.out;have hnc79:=NB322_326.out;have hcz80_0:w75.cell? ⟨gb326,0,none⟩=some (.string (⟨#[]⟩:ByteArray)):=q_ BK326 0 rfl;have hcz80_1:w75.cell? ⟨gb326,1,none⟩=some (.string (⟨#[]⟩:ByteArray)):=q_ BK326 1 rfl;have hcz80_2:w75.cell? ⟨gb326,2,none⟩=some (.int .i64 0):=q_ BK326 2 rfl;have hcz80_3:w75.cell? ⟨gb326,3,none⟩=some (.int .i64 0):=q_ BK326 3 rfl;have hcz80_4:w75.cell? ⟨gb326,4,none⟩=some (.bool false):=q_ BK326 4 rfl;have hcz80_5:w75.cell? ⟨gb326,5,none⟩=some (.int .i64 0):=q_ BK326 5 rfl;have hcz80_6:w75.cell? ⟨gb326,6,none⟩=some (.int .i64 0):=q_ BK326 6 rfl;have hfz80_0:=blk_frozen BK326.out 0;have hfz80_1:=blk_frozen BK326.out 1;have hfz80_2:=blk_frozen BK326.out 2;have hfz80_3:=blk_frozen BK326.out 3;have hfz80_4:=blk_frozen BK326.out 4;have hfz80_5:=blk_frozen BK326.out 5;have hfz80_6:=blk_frozen BK326.out 6;have hcz81_0:w75.cell? ⟨gb322,0,none⟩=some (.string t313):=q_ BK322 0 rfl;have hcz81_1:w75.cell? ⟨gb322,1,none⟩=some (.string t314):=q_ BK322 1 rfl;have hcz81_2:w75.cell? ⟨gb322,2,none⟩=some (.int .i64 t315):=q_ BK322 2 rfl;have hcz81_3:w75.cell? ⟨gb322,3,none⟩=some (.int .i64 t316):=q_ BK322 3 rfl;have hcz81_4:w75.cell? ⟨gb322,4,none⟩=some (.bool t317):=q_ BK322 4 rfl;have hcz81_5:w75.cell? ⟨gb322,5,none⟩=some (.int .i64 t318):=q_ BK322 5 rfl;have hcz81_6:w75.cell? ⟨gb322,6,none⟩=some (.int .i64 t319):=q_ BK322 6 rfl;have hfz81_0:=blk_frozen BK322.out 0;have hfz81_1:=blk_frozen BK322.out 1;have hfz81_2:=blk_frozen BK322.out 2;have hfz81_3:=blk_frozen BK322.out 3;have hfz81_4:=blk_frozen BK322.out 4;have hfz81_5:=blk_frozen BK322.out 5;have hfz81_6:=blk_frozen BK322.out 6)|((with_reducible refine gate_dst (N:=10) rfl ?_);refine box_event ?hg (N:=10) ?hd (cs:=#[.string (⟨#[]⟩:ByteArray),.string (⟨#[]⟩:ByteArray),.int .i64 0,.int .i64 0,.bool false,.int .i64 0,.int .i64 0]) (t:=30) ?hr ?_;(case hd => rfl);(case hg => rfl);(case hr => first|(go_simp;done)|(go_simp;rfl));intro gb327 hg w82 hbox hb;have n0_:=Am10_ (blk_below (g:=gb306) (o:=.cells #[.int .i64 1,.int .i64 2,.int .i64 (wrap64 (1 + t304)),.int .i64 t305] 26 (0,0)) (by (repeat (first|(with_reducible first|refine blk_drewN ?_ _|refine blk_drew ?_|refine blk_alloc ?_ _)|refine blk_far ?_ NB306_326.out _));exact BK306.out) hb);have n1_:=Am10_ (blk_below (g:=gb307) (o:=.cells #[.bool true,.string (⟨#[119,119,119,46,98,97,110,107,46,99,111,109]⟩:ByteArray),.int .i64 443] 28 (0,0)) (by (repeat (first|(with_reducible first|refine blk_drewN ?_ _|refine blk_drew ?_|refine blk_alloc ?_ _)|refine blk_far ?_ NB307_326.out _));exact BK307.out) hb);have n2_:=Am10_ (blk_below (g:=gb321) (o:=.cells #[.int .i64 t309,.int .i64 t310,.int .i64 t311,.int .i64 t312] 26 (0,0)) (by (repeat (first|(with_reducible first|refine blk_drewN ?_ _|refine blk_drew ?_|refine blk_alloc ?_ _)|refine blk_far ?_ NB321_326.out _));exact BK321.out) hb);have n3_:=Am10_ (blk_below (g:=gb322) (o:=.cells #[.string t313,.string t314,.int .i64 t315,.int .i64 t316,.bool t317,.int .i64 t318,.int .i64 t319] 30 (0,0)) (by (repeat (first|(with_reducible first|refine blk_drewN ?_ _|refine blk_drew ?_|refine blk_alloc ?_ _)|refine blk_far ?_ NB322_326.out _));exact BK322.out) hb);have n4_:=Am10_ (blk_below (g:=gb326) (o:=.cells #[.string t313,.string t314,.int .i64 t315,.int .i64 t316,.bool false,.int .i64 t318,.int .i64 t319] 30 (0,0)) (by (with_reducible repeat (first|refine blk_drewN ?_ _|refine blk_drew ?_|refine blk_alloc ?_ _));refine blk_put (cs:=#[.string t313,.string t314,.int .i64 t315,.int .i64 t316,.bool t317,.int .i64 t318,.int .i64 t319]) ?_ 4 _ rfl;(with_reducible repeat (first|refine blk_drewN ?_ _|refine blk_drew ?_|refine blk_alloc ?_ _));refine blk_put (cs:=#[.string t313,.string t314,.int .i64 t315,.int .i64 t316,.bool t317,.int .i64 t318,.int .i64 0]) ?_ 6 _ rfl;(with_reducible repeat (first|refine blk_drewN ?_ _|refine blk_drew ?_|refine blk_alloc ?_ _));refine blk_put (cs:=#[.string t313,.string t314,.int .i64 t315,.int .i64 t316,.bool t317,.int .i64 0,.int .i64 0]) ?_ 5 _ rfl;(with_reducible repeat (first|refine blk_drewN ?_ _|refine blk_drew ?_|refine blk_alloc ?_ _));refine blk_put (cs:=#[.string t313,.string t314,.int .i64 t315,.int .i64 t316,.bool false,.int .i64 0,.int .i64 0]) ?_ 4 _ rfl;(with_reducible repeat (first|refine blk_drewN ?_ _|refine blk_drew ?_|refine blk_alloc ?_ _));refine blk_put (cs:=#[.string t313,.string t314,.int .i64 t315,.int .i64 0,.bool false,.int .i64 0,.int .i64 0]) ?_ 3 _ rfl;(with_reducible repeat (first|refine blk_drewN ?_ _|refine blk_drew ?_|refine blk_alloc ?_ _));refine blk_put (cs:=#[.string t313,.string t314,.int .i64 0,.int .i64 0,.bool false,.int .i64 0,.int .i64 0]) ?_ 2 _ rfl;(with_reducible repeat (first|refine blk_drewN ?_ _|refine blk_drew ?_|refine blk_alloc ?_ _));refine blk_put (cs:=#[.string t313,.string (⟨#[]⟩:ByteArray),.int .i64 0,.int .i64 0,.bool false,.int .i64 0,.int .i64 0]) ?_ 1 _ rfl;(with_reducible repeat (first|refine blk_drewN ?_ _|refine blk_drew ?_|refine blk_alloc ?_ _));refine blk_put (cs:=#[.string (⟨#[]⟩:ByteArray),.string (⟨#[]⟩:ByteArray),.int .i64 0,.int .i64 0,.bool false,.int .i64 0,.int .i64 0]) ?_ 0 _ rfl;(with_reducible repeat (first|refine blk_drewN ?_ _|refine blk_drew ?_|refine blk_alloc ?_ _));exact BK326.out) hb);have n5_:=Am10_ (below_step (by repeat (first|(with_reducible first|exact HB.out|apply below_alloc|apply pw_below_drewN|apply below_drew1|refine below_set ?_ GE306.out|refine below_set ?_ GE307.out|refine below_set ?_ GE321.out|refine below_set ?_ GE322.out|refine below_set ?_ GE326.out)|exact HB.out)) hb);have n6_:=Am10_ (hbox);have n7_:=Am10_ ((by rw [hg];exact (below_size (by repeat (first|(with_reducible first|exact HB.out|apply below_alloc|apply pw_below_drewN|apply below_drew1|refine below_set ?_ GE306.out|refine below_set ?_ GE307.out|refine below_set ?_ GE321.out|refine below_set ?_ GE322.out|refine below_set ?_ GE326.out)|exact HB.out))):w.heap.size ≤ gb327));have n8_:=Am10_ ((by rw [hg];exact (below_size (by repeat (first|(with_reducible first|exact HB.out|apply below_alloc|apply pw_below_drewN|apply below_drew1|refine below_set ?_ GE306.out|refine below_set ?_ GE307.out|refine below_set ?_ GE321.out|refine below_set ?_ GE322.out|refine below_set ?_ GE326.out)|exact HB.out))):w.heap.size ≤ gb327));have n9_:=Am10_ ((by rw [hg];exact Nat.ne_of_lt (blk_lt (g:=gb306) (o:=.cells #[.int .i64 1,.int .i64 2,.int .i64 (wrap64 (1 + t304)),.int .i64 t305] 26 (0,0)) (by (repeat (first|(with_reducible first|refine blk_drewN ?_ _|refine blk_drew ?_|refine blk_alloc ?_ _)|refine blk_far ?_ NB306_326.out _));exact BK306.out)):gb306 ≠ gb327));have n10_:=Am10_ ((by rw [hg];exact Nat.ne_of_gt (blk_lt (g:=gb306) (o:=.cells #[.int .i64 1,.int .i64 2,.int .i64 (wrap64 (1 + t304)),.int .i64 t305] 26 (0,0)) (by (repeat (first|(with_reducible first|refine blk_drewN ?_ _|refine blk_drew ?_|refine blk_alloc ?_ _)|refine blk_far ?_ NB306_326.out _));exact BK306.out)):gb327 ≠ gb306));have n11_:=Am10_ ((by rw [hg];exact Nat.ne_of_lt (blk_lt (g:=gb307) (o:=.cells #[.bool true,.string (⟨#[119,119,119,46,98,97,110,107,46,99,111,109]⟩:ByteArray),.int .i64 443] 28 (0,0)) (by (repeat (first|(with_reducible first|refine blk_drewN ?_ _|refine blk_drew ?_|refine blk_alloc ?_ _)|refine blk_far ?_ NB307_326.out _));exact BK307.out)):gb307 ≠ gb327));have n12_:=Am10_ ((by rw [hg];exact Nat.ne_of_gt (blk_lt (g:=gb307) (o:=.cells #[.bool true,.string (⟨#[119,119,119,46,98,97,110,107,46,99,111,109]⟩:ByteArray),.int .i64 443] 28 (0,0)) (by (repeat (first|(with_reducible first|refine blk_drewN ?_ _|refine blk_drew ?_|refine blk_alloc ?_ _)|refine blk_far ?_ NB307_326.out _));exact BK307.out)):gb327 ≠ gb307));have n13_:=Am10_ ((by rw [hg];exact Nat.ne_of_lt (blk_lt (g:=gb321) (o:=.cells #[.int .i64 t309,.int .i64 t310,.int .i64 t311,.int .i64 t312] 26 (0,0)) (by (repeat (first|(with_reducible first|refine blk_drewN ?_ _|refine blk_drew ?_|refine blk_alloc ?_ _)|refine blk_far ?_ NB321_326.out _));exact BK321.out)):gb321 ≠ gb327));have n14_:=Am10_ ((by rw [hg];exact Nat.ne_of_gt (blk_lt (g:=gb321) (o:=.cells #[.int .i64 t309,.int .i64 t310,.int .i64 t311,.int .i64 t312] 26 (0,0)) (by (repeat (first|(with_reducible first|refine blk_drewN ?_ _|refine blk_drew ?_|refine blk_alloc ?_ _)|refine blk_far ?_ NB321_326.out _));exact BK321.out)):gb327 ≠ gb321));have n15_:=Am10_ ((by rw [hg];exact Nat.ne_of_lt (blk_lt (g:=gb322) (o:=.cells #[.string t313,.string t314,.int .i64 t315,.int .i64 t316,.bool t317,.int .i64 t318,.int .i64 t319] 30 (0,0)) (by (repeat (first|(with_reducible first|refine blk_drewN ?_ _|refine blk_drew ?_|refine blk_alloc ?_ _)|refine blk_far ?_ NB322_326.out _));exact BK322.out)):gb322 ≠ gb327));have n16_:=Am10_ ((by rw [hg];exact Nat.ne_of_gt (blk_lt (g:=gb322) (o:=.cells #[.string t313,.string t314,.int .i64 t315,.int .i64 t316,.bool t317,.int .i64 t318,.int .i64 t319] 30 (0,0)) (by (repeat (first|(with_reducible first|refine blk_drewN ?_ _|refine blk_drew ?_|refine blk_alloc ?_ _)|refine blk_far ?_ NB322_326.out _));exact BK322.out)):gb327 ≠ gb322));have n17_:=Am10_ ((by rw [hg];exact Nat.ne_of_lt (blk_lt (g:=gb326) (o:=.cells #[.string t313,.string t314,.int .i64 t315,.int .i64 t316,.bool false,.int .i64 t318,.int .i64 t319] 30 (0,0)) (by (with_reducible repeat (first|refine blk_drewN ?_ _|refine blk_drew ?_|refine blk_alloc ?_ _));refine blk_put (cs:=#[.string t313,.string t314,.int .i64 t315,.int .i64 t316,.bool t317,.int .i64 t318,.int .i64 t319]) ?_ 4 _ rfl;(with_reducible repeat (first|refine blk_drewN ?_ _|refine blk_drew ?_|refine blk_alloc ?_ _));refine blk_put (cs:=#[.string t313,.string t314,.int .i64 t315,.int .i64 t316,.bool t317,.int .i64 t318,.int .i64 0]) ?_ 6 _ rfl;(with_reducible repeat (first|refine blk_drewN ?_ _|refine blk_drew ?_|refine blk_alloc ?_ _));refine blk_put (cs:=#[.string t313,.string t314,.int .i64 t315,.int .i64 t316,.bool t317,.int .i64 0,.int .i64 0]) ?_ 5 _ rfl;(with_reducible repeat (first|refine blk_drewN ?_ _|refine blk_drew ?_|refine blk_alloc ?_ _));refine blk_put (cs:=#[.string t313,.string t314,.int .i64 t315,.int .i64 t316,.bool false,.int .i64 0,.int .i64 0]) ?_ 4 _ rfl;(with_reducible repeat (first|refine blk_drewN ?_ _|refine blk_drew ?_|refine blk_alloc ?_ _));refine blk_put (cs:=#[.string t313,.string t314,.int .i64 t315,.int .i64 0,.bool false,.int .i64 0,.int .i64 0]) ?_ 3 _ rfl;(with_reducible repeat (first|refine blk_drewN ?_ _|refine blk_drew ?_|refine blk_alloc ?_ _));refine blk_put (cs:=#[.string t313,.string t314,.int .i64 0,.int .i64 0,.bool false,.int .i64 0,.int .i64 0]) ?_ 2 _ rfl;(with_reducible repeat (first|refine blk_drewN ?_ _|refine blk_drew ?_|refine blk_alloc ?_ _));refine blk_put (cs:=#[.string t313,.string (⟨#[]⟩:ByteArray),.int .i64 0,.int .i64 0,.bool false,.int .i64 0,.int .i64 0]) ?_ 1 _ rfl;(with_reducible repeat (first|refine blk_drewN ?_ _|refine blk_drew ?_|refine blk_alloc ?_ _));refine blk_put (cs:=#[.string (⟨#[]⟩:ByteArray),.string (⟨#[]⟩:ByteArray),.int .i64 0,.int .i64 0,.bool false,.int .i64 0,.int .i64 0]) ?_ 0 _ rfl;(with_reducible repeat (first|refine blk_drewN ?_ _|refine blk_drew ?_|refine blk_alloc ?_ _));exact BK326.out)):gb326 ≠ gb327));have n18_:=Am10_ ((by rw [hg];exact Nat.ne_of_gt (blk_lt (g:=gb326) (o:=.cells #[.string t313,.string t314,.int .i64 t315,.int .i64 t316,.bool false,.int .i64 t318,.int .i64 t319] 30 (0,0)) (by (with_reducible repeat (first|refine blk_drewN ?_ _|refine blk_drew ?_|refine blk_alloc ?_ _));refine blk_put (cs:=#[.string t313,.string t314,.int .i64 t315,.int .i64 t316,.bool t317,.int .i64 t318,.int .i64 t319]) ?_ 4 _ rfl;(with_reducible repeat (first|refine blk_drewN ?_ _|refine blk_drew ?_|refine blk_alloc ?_ _));refine blk_put (cs:=#[.string t313,.string t314,.int .i64 t315,.int .i64 t316,.bool t317,.int .i64 t318,.int .i64 0]) ?_ 6 _ rfl;(with_reducible repeat (first|refine blk_drewN ?_ _|refine blk_drew ?_|refine blk_alloc ?_ _));refine blk_put (cs:=#[.string t313,.string t314,.int .i64 t315,.int .i64 t316,.bool t317,.int .i64 0,.int .i64 0]) ?_ 5 _ rfl;(with_reducible repeat (first|refine blk_drewN ?_ _|refine blk_drew ?_|refine blk_alloc ?_ _));refine blk_put (cs:=#[.string t313,.string t314,.int .i64 t315,.int .i64 t316,.bool false,.int .i64 0,.int .i64 0]) ?_ 4 _ rfl;(with_reducible repeat (first|refine blk_drewN ?_ _|refine blk_drew ?_|refine blk_alloc ?_ _));refine blk_put (cs:=#[.string t313,.string t314,.int .i64 t315,.int .i64 0,.bool false,.int .i64 0,.int .i64 0]) ?_ 3 _ rfl;(with_reducible repeat (first|refine blk_drewN ?_ _|refine blk_drew ?_|refine blk_alloc ?_ _));refine blk_put (cs:=#[.string t313,.string t314,.int .i64 0,.int .i64 0,.bool false,.int .i64 0,.int .i64 0]) ?_ 2 _ rfl;(with_reducible repeat (first|refine blk_drewN ?_ _|refine blk_drew ?_|refine blk_alloc ?_ _));refine blk_put (cs:=#[.string t313,.string (⟨#[]⟩:ByteArray),.int .i64 0,.int .i64 0,.bool false,.int .i64 0,.int .i64 0]) ?_ 1 _ rfl;(with_reducible repeat (first|refine blk_drewN ?_ _|refine blk_drew ?_|refine blk_alloc ?_ _));refine blk_put (cs:=#[.string (⟨#[]⟩:ByteArray),.string (⟨#[]⟩:ByteArray),.int .i64 0,.int .i64 0,.bool false,.int .i64 0,.int .i64 0]) ?_ 0 _ rfl;(with_reducible repeat (first|refine blk_drewN ?_ _|refine blk_drew ?_|refine blk_alloc ?_ _));exact BK326.out)):gb327 ≠ gb326));clear BK306;clear BK307;clear BK321;clear BK322;clear BK326;clear HB;have BK306:=n0_;have BK307:=n1_;have BK321:=n2_;have BK322:=n3_;have BK326:=n4_;have HB:=n5_;have BK327:=n6_;have GW327:=n7_;have GE327:=n8_;have NB306_327:=n9_;have NB327_306:=n10_;have NB307_327:=n11_;have NB327_307:=n12_;have NB321_327:=n13_;have NB327_321:=n14_;have NB322_327:=n15_;have NB327_322:=n16_;have NB326_327:=n17_;have NB327_326:=n18_;clear n0_ n1_ n2_ n3_ n4_ n5_ n6_ n7_ n8_ n9_ n10_ n11_ n12_ n13_ n14_ n15_ n16_ n17_ n18_;clear hb hbox hg;have hnb83:=NB327_306.out;have hnc83:=NB306_327.out;have hnb84:=NB327_307.out;have hnc84:=NB307_327.out;have hnb85:=NB327_321.out;have hnc85:=NB321_327.out;have hnb86:=NB327_322.out;have hnc86:=NB322_327.out;have hnb87:=NB327_326.out;have hnc87:=NB326_327.out;have hcz88_0:w82.cell? ⟨gb327,0,none⟩=some (.string (⟨#[]⟩:ByteArray)):=q_ BK327 0 rfl;have hcz88_1:w82.cell? ⟨gb327,1,none⟩=some (.string (⟨#[]⟩:ByteArray)):=q_ BK327 1 rfl;have hcz88_2:w82.cell? ⟨gb327,2,none⟩=some (.int .i64 0):=q_ BK327 2 rfl;have hcz88_3:w82.cell? ⟨gb327,3,none⟩=some (.int .i64 0):=q_ BK327 3 rfl;have hcz88_4:w82.cell? ⟨gb327,4,none⟩=some (.bool false):=q_ BK327 4 rfl;have hcz88_5:w82.cell? ⟨gb327,5,none⟩=some (.int .i64 0):=q_ BK327 5 rfl;have hcz88_6:w82.cell? ⟨gb327,6,none⟩=some (.int .i64 0):=q_ BK327 6 rfl;have hfz88_0:=blk_frozen BK327.out 0;have hfz88_1:=blk_frozen BK327.out 1;have hfz88_2:=blk_frozen BK327.out 2;have hfz88_3:=blk_frozen BK327.out 3;have hfz88_4:=blk_frozen BK327.out 4;have hfz88_5:=blk_frozen BK327.out 5;have hfz88_6:=blk_frozen BK327.out 6;have hcz89_0:w82.cell? ⟨gb322,0,none⟩=some (.string t313):=q_ BK322 0 rfl;have hcz89_1:w82.cell? ⟨gb322,1,none⟩=some (.string t314):=q_ BK322 1 rfl;have hcz89_2:w82.cell? ⟨gb322,2,none⟩=some (.int .i64 t315):=q_ BK322 2 rfl;have hcz89_3:w82.cell? ⟨gb322,3,none⟩=some (.int .i64 t316):=q_ BK322 3 rfl;have hcz89_4:w82.cell? ⟨gb322,4,none⟩=some (.bool t317):=q_ BK322 4 rfl;have hcz89_5:w82.cell? ⟨gb322,5,none⟩=some (.int .i64 t318):=q_ BK322 5 rfl;have hcz89_6:w82.cell? ⟨gb322,6,none⟩=some (.int .i64 t319):=q_ BK322 6 rfl;have hfz89_0:=blk_frozen BK322.out 0;have hfz89_1:=blk_frozen BK322.out 1;have hfz89_2:=blk_frozen BK322.out 2;have hfz89_3:=blk_frozen BK322.out 3;have hfz89_4:=blk_frozen BK322.out 4;have hfz89_5:=blk_frozen BK322.out 5;have hfz89_6:=blk_frozen BK322.out 6)|((with_reducible refine gate_dst (N:=11) rfl ?_);refine box_event ?hg (N:=11) ?hd (cs:=#[.string (⟨#[]⟩:ByteArray),.string (⟨#[]⟩:ByteArray),.int .i64 0,.int .i64 0,.bool false,.int .i64 0,.int .i64 0]) (t:=30) ?hr ?_;(case hd => rfl);(case hg => rfl);(case hr => first|(go_simp;done)|(go_simp;rfl));intro gb328 hg w90 hbox hb;have n0_:=Am10_ (blk_below (g:=gb306) (o:=.cells #[.int .i64 1,.int .i64 2,.int .i64 (wrap64 (1 + t304)),.int .i64 t305] 26 (0,0)) (by (repeat (first|(with_reducible first|refine blk_drewN ?_ _|refine blk_drew ?_|refine blk_alloc ?_ _)|refine blk_far ?_ NB306_327.out _));exact BK306.out) hb);have n1_:=Am10_ (blk_below (g:=gb307) (o:=.cells #[.bool true,.string (⟨#[119,119,119,46,98,97,110,107,46,99,111,109]⟩:ByteArray),.int .i64 443] 28 (0,0)) (by (repeat (first|(with_reducible first|refine blk_drewN ?_ _|refine blk_drew ?_|refine blk_alloc ?_ _)|refine blk_far ?_ NB307_327.out _));exact BK307.out) hb);have n2_:=Am10_ (blk_below (g:=gb321) (o:=.cells #[.int .i64 t309,.int .i64 t310,.int .i64 t311,.int .i64 t312] 26 (0,0)) (by (repeat (first|(with_reducible first|refine blk_drewN ?_ _|refine blk_drew ?_|refine blk_alloc ?_ _)|refine blk_far ?_ NB321_327.out _));exact BK321.out) hb);have n3_:=Am10_ (blk_below (g:=gb322) (o:=.cells #[.string t313,.string t314,.int .i64 t315,.int .i64 t316,.bool t317,.int .i64 t318,.int .i64 t319] 30 (0,0)) (by (repeat (first|(with_reducible first|refine blk_drewN ?_ _|refine blk_drew ?_|refine blk_alloc ?_ _)|refine blk_far ?_ NB322_327.out _));exact BK322.out) hb);have n4_:=Am10_ (blk_below (g:=gb326) (o:=.cells #[.string t313,.string t314,.int .i64 t315,.int .i64 t316,.bool false,.int .i64 t318,.int .i64 t319] 30 (0,0)) (by (repeat (first|(with_reducible first|refine blk_drewN ?_ _|refine blk_drew ?_|refine blk_alloc ?_ _)|refine blk_far ?_ NB326_327.out _));exact BK326.out) hb);have n5_:=Am10_ (blk_below (g:=gb327) (o:=.cells #[.string t313,.string (⟨#[104,116,116,112,115,58,47,47,98,97,110,107,46,99,111,109]⟩:ByteArray),.int .i64 t315,.int .i64 t316,.bool t317,.int .i64 t318,.int .i64 t319] 30 (0,0)) (by (with_reducible repeat (first|refine blk_drewN ?_ _|refine blk_drew ?_|refine blk_alloc ?_ _));refine blk_put (cs:=#[.string t313,.string t314,.int .i64 t315,.int .i64 t316,.bool t317,.int .i64 t318,.int .i64 t319]) ?_ 1 _ rfl;(with_reducible repeat (first|refine blk_drewN ?_ _|refine blk_drew ?_|refine blk_alloc ?_ _));refine blk_put (cs:=#[.string t313,.string t314,.int .i64 t315,.int .i64 t316,.bool t317,.int .i64 t318,.int .i64 0]) ?_ 6 _ rfl;(with_reducible repeat (first|refine blk_drewN ?_ _|refine blk_drew ?_|refine blk_alloc ?_ _));refine blk_put (cs:=#[.string t313,.string t314,.int .i64 t315,.int .i64 t316,.bool t317,.int .i64 0,.int .i64 0]) ?_ 5 _ rfl;(with_reducible repeat (first|refine blk_drewN ?_ _|refine blk_drew ?_|refine blk_alloc ?_ _));refine blk_put (cs:=#[.string t313,.string t314,.int .i64 t315,.int .i64 t316,.bool false,.int .i64 0,.int .i64 0]) ?_ 4 _ rfl;(with_reducible repeat (first|refine blk_drewN ?_ _|refine blk_drew ?_|refine blk_alloc ?_ _));refine blk_put (cs:=#[.string t313,.string t314,.int .i64 t315,.int .i64 0,.bool false,.int .i64 0,.int .i64 0]) ?_ 3 _ rfl;(with_reducible repeat (first|refine blk_drewN ?_ _|refine blk_drew ?_|refine blk_alloc ?_ _));refine blk_put (cs:=#[.string t313,.string t314,.int .i64 0,.int .i64 0,.bool false,.int .i64 0,.int .i64 0]) ?_ 2 _ rfl;(with_reducible repeat (first|refine blk_drewN ?_ _|refine blk_drew ?_|refine blk_alloc ?_ _));refine blk_put (cs:=#[.string t313,.string (⟨#[]⟩:ByteArray),.int .i64 0,.int .i64 0,.bool false,.int .i64 0,.int .i64 0]) ?_ 1 _ rfl;(with_reducible repeat (first|refine blk_drewN ?_ _|refine blk_drew ?_|refine blk_alloc ?_ _));refine blk_put (cs:=#[.string (⟨#[]⟩:ByteArray),.string (⟨#[]⟩:ByteArray),.int .i64 0,.int .i64 0,.bool false,.int .i64 0,.int .i64 0]) ?_ 0 _ rfl;(with_reducible repeat (first|refine blk_drewN ?_ _|refine blk_drew ?_|refine blk_alloc ?_ _));exact BK327.out) hb);have n6_:=Am10_ (below_step (by repeat (first|(with_reducible first|exact HB.out|apply below_alloc|apply pw_below_drewN|apply below_drew1|refine below_set ?_ GE306.out|refine below_set ?_ GE307.out|refine below_set ?_ GE321.out|refine below_set ?_ GE322.out|refine below_set ?_ GE326.out|refine below_set ?_ GE327.out)|exact HB.out)) hb);have n7_:=Am10_ (hbox);have n8_:=Am10_ ((by rw [hg];exact (below_size (by repeat (first|(with_reducible first|exact HB.out|apply below_alloc|apply pw_below_drewN|apply below_drew1|refine below_set ?_ GE306.out|refine below_set ?_ GE307.out|refine below_set ?_ GE321.out|refine below_set ?_ GE322.out|refine below_set ?_ GE326.out|refine below_set ?_ GE327.out)|exact HB.out))):w.heap.size ≤ gb328));have n9_:=Am10_ ((by rw [hg];exact (below_size (by repeat (first|(with_reducible first|exact HB.out|apply below_alloc|apply pw_below_drewN|apply below_drew1|refine below_set ?_ GE306.out|refine below_set ?_ GE307.out|refine below_set ?_ GE321.out|refine below_set ?_ GE322.out|refine below_set ?_ GE326.out|refine below_set ?_ GE327.out)|exact HB.out))):w.heap.size ≤ gb328));have n10_:=Am10_ ((by rw [hg];exact Nat.ne_of_lt (blk_lt (g:=gb306) (o:=.cells #[.int .i64 1,.int .i64 2,.int .i64 (wrap64 (1 + t304)),.int .i64 t305] 26 (0,0)) (by (repeat (first|(with_reducible first|refine blk_drewN ?_ _|refine blk_drew ?_|refine blk_alloc ?_ _)|refine blk_far ?_ NB306_327.out _));exact BK306.out)):gb306 ≠ gb328));have n11_:=Am10_ ((by rw [hg];exact Nat.ne_of_gt (blk_lt (g:=gb306) (o:=.cells #[.int .i64 1,.int .i64 2,.int .i64 (wrap64 (1 + t304)),.int .i64 t305] 26 (0,0)) (by (repeat (first|(with_reducible first|refine blk_drewN ?_ _|refine blk_drew ?_|refine blk_alloc ?_ _)|refine blk_far ?_ NB306_327.out _));exact BK306.out)):gb328 ≠ gb306));have n12_:=Am10_ ((by rw [hg];exact Nat.ne_of_lt (blk_lt (g:=gb307) (o:=.cells #[.bool true,.string (⟨#[119,119,119,46,98,97,110,107,46,99,111,109]⟩:ByteArray),.int .i64 443] 28 (0,0)) (by (repeat (first|(with_reducible first|refine blk_drewN ?_ _|refine blk_drew ?_|refine blk_alloc ?_ _)|refine blk_far ?_ NB307_327.out _));exact BK307.out)):gb307 ≠ gb328));have n13_:=Am10_ ((by rw [hg];exact Nat.ne_of_gt (blk_lt (g:=gb307) (o:=.cells #[.bool true,.string (⟨#[119,119,119,46,98,97,110,107,46,99,111,109]⟩:ByteArray),.int .i64 443] 28 (0,0)) (by (repeat (first|(with_reducible first|refine blk_drewN ?_ _|refine blk_drew ?_|refine blk_alloc ?_ _)|refine blk_far ?_ NB307_327.out _));exact BK307.out)):gb328 ≠ gb307));have n14_:=Am10_ ((by rw [hg];exact Nat.ne_of_lt (blk_lt (g:=gb321) (o:=.cells #[.int .i64 t309,.int .i64 t310,.int .i64 t311,.int .i64 t312] 26 (0,0)) (by (repeat (first|(with_reducible first|refine blk_drewN ?_ _|refine blk_drew ?_|refine blk_alloc ?_ _)|refine blk_far ?_ NB321_327.out _));exact BK321.out)):gb321 ≠ gb328));have n15_:=Am10_ ((by rw [hg];exact Nat.ne_of_gt (blk_lt (g:=gb321) (o:=.cells #[.int .i64 t309,.int .i64 t310,.int .i64 t311,.int .i64 t312] 26 (0,0)) (by (repeat (first|(with_reducible first|refine blk_drewN ?_ _|refine blk_drew ?_|refine blk_alloc ?_ _)|refine blk_far ?_ NB321_327.out _));exact BK321.out)):gb328 ≠ gb321));have n16_:=Am10_ ((by rw [hg];exact Nat.ne_of_lt (blk_lt (g:=gb322) (o:=.cells #[.string t313,.string t314,.int .i64 t315,.int .i64 t316,.bool t317,.int .i64 t318,.int .i64 t319] 30 (0,0)) (by (repeat (first|(with_reducible first|refine blk_drewN ?_ _|refine blk_drew ?_|refine blk_alloc ?_ _)|refine blk_far ?_ NB322_327.out _));exact BK322.out)):gb322 ≠ gb328));have n17_:=Am10_ ((by rw [hg];exact Nat.ne_of_gt (blk_lt (g:=gb322) (o:=.cells #[.string t313,.string t314,.int .i64 t315,.int .i64 t316,.bool t317,.int .i64 t318,.int .i64 t319] 30 (0,0)) (by (repeat (first|(with_reducible first|refine blk_drewN ?_ _|refine blk_drew ?_|refine blk_alloc ?_ _)|refine blk_far ?_ NB322_327.out _));exact BK322.out)):gb328 ≠ gb322));have n18_:=Am10_ ((by rw [hg];exact Nat.ne_of_lt (blk_lt (g:=gb326) (o:=.cells #[.string t313,.string t314,.int .i64 t315,.int .i64 t316,.bool false,.int .i64 t318,.int .i64 t319] 30 (0,0)) (by (repeat (first|(with_reducible first|refine blk_drewN ?_ _|refine blk_drew ?_|refine blk_alloc ?_ _)|refine blk_far ?_ NB326_327.out _));exact BK326.out)):gb326 ≠ gb328));have n19_:=Am10_ ((by rw [hg];exact Nat.ne_of_gt (blk_lt (g:=gb326) (o:=.cells #[.string t313,.string t314,.int .i64 t315,.int .i64 t316,.bool false,.int .i64 t318,.int .i64 t319] 30 (0,0)) (by (repeat (first|(with_reducible first|refine blk_drewN ?_ _|refine blk_drew ?_|refine blk_alloc ?_ _)|refine blk_far ?_ NB326_327.out _));exact BK326.out)):gb328 ≠ gb326));have n20_:=Am10_ ((by rw [hg];exact Nat.ne_of_lt (blk_lt (g:=gb327) (o:=.cells #[.string t313,.string (⟨#[104,116,116,112,115,58,47,47,98,97,110,107,46,99,111,109]⟩:ByteArray),.int .i64 t315,.int .i64 t316,.bool t317,.int .i64 t318,.int .i64 t319] 30 (0,0)) (by (with_reducible repeat (first|refine blk_drewN ?_ _|refine blk_drew ?_|refine blk_alloc ?_ _));refine blk_put (cs:=#[.string t313,.string t314,.int .i64 t315,.int .i64 t316,.bool t317,.int .i64 t318,.int .i64 t319]) ?_ 1 _ rfl;(with_reducible repeat (first|refine blk_drewN ?_ _|refine blk_drew ?_|refine blk_alloc ?_ _));refine blk_put (cs:=#[.string t313,.string t314,.int .i64 t315,.int .i64 t316,.bool t317,.int .i64 t318,.int .i64 0]) ?_ 6 _ rfl;(with_reducible repeat (first|refine blk_drewN ?_ _|refine blk_drew ?_|refine blk_alloc ?_ _));refine blk_put (cs:=#[.string t313,.string t314,.int .i64 t315,.int .i64 t316,.bool t317,.int .i64 0,.int .i64 0]) ?_ 5 _ rfl;(with_reducible repeat (first|refine blk_drewN ?_ _|refine blk_drew ?_|refine blk_alloc ?_ _));refine blk_put (cs:=#[.string t313,.string t314,.int .i64 t315,.int .i64 t316,.bool false,.int .i64 0,.int .i64 0]) ?_ 4 _ rfl;(with_reducible repeat (first|refine blk_drewN ?_ _|refine blk_drew ?_|refine blk_alloc ?_ _));refine blk_put (cs:=#[.string t313,.string t314,.int .i64 t315,.int .i64 0,.bool false,.int .i64 0,.int .i64 0]) ?_ 3 _ rfl;(with_reducible repeat (first|refine blk_drewN ?_ _|refine blk_drew ?_|refine blk_alloc ?_ _));refine blk_put (cs:=#[.string t313,.string t314,.int .i64 0,.int .i64 0,.bool false,.int .i64 0,.int .i64 0]) ?_ 2 _ rfl;(with_reducible repeat (first|refine blk_drewN ?_ _|refine blk_drew ?_|refine blk_alloc ?_ _));refine blk_put (cs:=#[.string t313,.string (⟨#[]⟩:ByteArray),.int .i64 0,.int .i64 0,.bool false,.int .i64 0,.int .i64 0]) ?_ 1 _ rfl;(with_reducible repeat (first|refine blk_drewN ?_ _|refine blk_drew ?_|refine blk_alloc ?_ _));refine blk_put (cs:=#[.string (⟨#[]⟩:ByteArray),.string (⟨#[]⟩:ByteArray),.int .i64 0,.int .i64 0,.bool false,.int .i64 0,.int .i64 0]) ?_ 0 _ rfl;(with_reducible repeat (first|refine blk_drewN ?_ _|refine blk_drew ?_|refine blk_alloc ?_ _));exact BK327.out)):gb327 ≠ gb328));have n21_:=Am10_ ((by rw [hg];exact Nat.ne_of_gt (blk_lt (g:=gb327) (o:=.cells #[.string t313,.string (⟨#[104,116,116,112,115,58,47,47,98,97,110,107,46,99,111,109]⟩:ByteArray),.int .i64 t315,.int .i64 t316,.bool t317,.int .i64 t318,.int .i64 t319] 30 (0,0)) (by (with_reducible repeat (first|refine blk_drewN ?_ _|refine blk_drew ?_|refine blk_alloc ?_ _));refine blk_put (cs:=#[.string t313,.string t314,.int .i64 t315,.int .i64 t316,.bool t317,.int .i64 t318,.int .i64 t319]) ?_ 1 _ rfl;(with_reducible repeat (first|refine blk_drewN ?_ _|refine blk_drew ?_|refine blk_alloc ?_ _));refine blk_put (cs:=#[.string t313,.string t314,.int .i64 t315,.int .i64 t316,.bool t317,.int .i64 t318,.int .i64 0]) ?_ 6 _ rfl;(with_reducible repeat (first|refine blk_drewN ?_ _|refine blk_drew ?_|refine blk_alloc ?_ _));refine blk_put (cs:=#[.string t313,.string t314,.int .i64 t315,.int .i64 t316,.bool t317,.int .i64 0,.int .i64 0]) ?_ 5 _ rfl;(with_reducible repeat (first|refine blk_drewN ?_ _|refine blk_drew ?_|refine blk_alloc ?_ _));refine blk_put (cs:=#[.string t313,.string t314,.int .i64 t315,.int .i64 t316,.bool false,.int .i64 0,.int .i64 0]) ?_ 4 _ rfl;(with_reducible repeat (first|refine blk_drewN ?_ _|refine blk_drew ?_|refine blk_alloc ?_ _));refine blk_put (cs:=#[.string t313,.string t314,.int .i64 t315,.int .i64 0,.bool false,.int .i64 0,.int .i64 0]) ?_ 3 _ rfl;(with_reducible repeat (first|refine blk_drewN ?_ _|refine blk_drew ?_|refine blk_alloc ?_ _));refine blk_put (cs:=#[.string t313,.string t314,.int .i64 0,.int .i64 0,.bool false,.int .i64 0,.int .i64 0]) ?_ 2 _ rfl;(with_reducible repeat (first|refine blk_drewN ?_ _|refine blk_drew ?_|refine blk_alloc ?_ _));refine blk_put (cs:=#[.string t313,.string (⟨#[]⟩:ByteArray),.int .i64 0,.int .i64 0,.bool false,.int .i64 0,.int .i64 0]) ?_ 1 _ rfl;(with_reducible repeat (first|refine blk_drewN ?_ _|refine blk_drew ?_|refine blk_alloc ?_ _));refine blk_put (cs:=#[.string (⟨#[]⟩:ByteArray),.string (⟨#[]⟩:ByteArray),.int .i64 0,.int .i64 0,.bool false,.int .i64 0,.int .i64 0]) ?_ 0 _ rfl;(with_reducible repeat (first|refine blk_drewN ?_ _|refine blk_drew ?_|refine blk_alloc ?_ _));exact BK327.out)):gb328 ≠ gb327));clear BK306;clear BK307;clear BK321;clear BK322;clear BK326;clear BK327;clear HB;have BK306:=n0_;have BK307:=n1_;have BK321:=n2_;have BK322:=n3_;have BK326:=n4_;have BK327:=n5_;have HB:=n6_;have BK328:=n7_;have GW328:=n8_;have GE328:=n9_;have NB306_328:=n10_;have NB328_306:=n11_;have NB307_328:=n12_;have NB328_307:=n13_;have NB321_328:=n14_;have NB328_321:=n15_;have NB322_328:=n16_;have NB328_322:=n17_;have NB326_328:=n18_;have NB328_326:=n19_;have NB327_328:=n20_;have NB328_327:=n21_;clear n0_ n1_ n2_ n3_ n4_ n5_ n6_ n7_ n8_ n9_ n10_ n11_ n12_ n13_ n14_ n15_ n16_ n17_ n18_ n19_ n20_ n21_;clear hb hbox hg;have hnb91:=NB328_306.out;have hnc91:=NB306_328.out;have hnb92:=NB328_307.out;have hnc92:=NB307_328.out;have hnb93:=NB328_321.out;have hnc93:=NB321_328.out;have hnb94:=NB328_322.out;have hnc94:=NB322_328.out;have hnb95:=NB328_326.out;have hnc95:=NB326_328.out;have hnb96:=NB328_327.out;have hnc96:=NB327_328.out;have hcz97_0:w90.cell? ⟨gb328,0,none⟩=some (.string (⟨#[]⟩:ByteArray)):=q_ BK328 0 rfl;have hcz97_1:w90.cell? ⟨gb328,1,none⟩=some (.string (⟨#[]⟩:ByteArray)):=q_ BK328 1 rfl;have hcz97_2:w90.cell? ⟨gb328,2,none⟩=some (.int .i64 0):=q_ BK328 2 rfl;have hcz97_3:w90.cell? ⟨gb328,3,none⟩=some (.int .i64 0):=q_ BK328 3 rfl;have hcz97_4:w90.cell? ⟨gb328,4,none⟩=some (.bool false):=q_ BK328 4 rfl;have hcz97_5:w90.cell? ⟨gb328,5,none⟩=some (.int .i64 0):=q_ BK328 5 rfl;have hcz97_6:w90.cell? ⟨gb328,6,none⟩=some (.int .i64 0):=q_ BK328 6 rfl;have hfz97_0:=blk_frozen BK328.out 0;have hfz97_1:=blk_frozen BK328.out 1;have hfz97_2:=blk_frozen BK328.out 2;have hfz97_3:=blk_frozen BK328.out 3;have hfz97_4:=blk_frozen BK328.out 4;have hfz97_5:=blk_frozen BK328.out 5;have hfz97_6:=blk_frozen BK328.out 6;have hcz98_0:w90.cell? ⟨gb322,0,none⟩=some (.string t313):=q_ BK322 0 rfl;have hcz98_1:w90.cell? ⟨gb322,1,none⟩=some (.string t314):=q_ BK322 1 rfl;have hcz98_2:w90.cell? ⟨gb322,2,none⟩=some (.int .i64 t315):=q_ BK322 2 rfl;have hcz98_3:w90.cell? ⟨gb322,3,none⟩=some (.int .i64 t316):=q_ BK322 3 rfl;have hcz98_4:w90.cell? ⟨gb322,4,none⟩=some (.bool t317):=q_ BK322 4 rfl;have hcz98_5:w90.cell? ⟨gb322,5,none⟩=some (.int .i64 t318):=q_ BK322 5 rfl;have hcz98_6:w90.cell? ⟨gb322,6,none⟩=some (.int .i64 t319):=q_ BK322 6 rfl;have hfz98_0:=blk_frozen BK322.out 0;have hfz98_1:=blk_frozen BK322.out 1;have hfz98_2:=blk_frozen BK322.out 2;have hfz98_3:=blk_frozen BK322.out 3;have hfz98_4:=blk_frozen BK322.out 4;have hfz98_5:=blk_frozen BK322.out 5;have hfz98_6:=blk_frozen BK322.out 6))
             have n0_:Aside0 (((((((((w90.setCell ⟨gb328,0,none⟩ (.string t313)).setCell ⟨gb328,1,none⟩ (.string t314)).setCell ⟨gb328,2,none⟩ (.int .i64 t315)).setCell ⟨gb328,3,none⟩ (.int .i64 t316)).setCell ⟨gb328,4,none⟩ (.bool t317)).setCell ⟨gb328,5,none⟩ (.int .i64 t318)).setCell ⟨gb328,6,none⟩ (.int .i64 t319)).setCell ⟨gb328,5,none⟩ (.int .i64 (wrap64 (t318 + 1)))).heap[gb306]?=some (.cells #[.int .i64 1,.int .i64 2,.int .i64 (wrap64 (1 + t304)),.int .i64 t305] 26 (0,0))):=⟨by (with_reducible repeat (first|refine blk_drewN ?_ _|refine blk_drew ?_|refine blk_alloc ?_ _));refine blk_far ?_ NB306_328.out _;(with_reducible repeat (first|refine blk_drewN ?_ _|refine blk_drew ?_|refine blk_alloc ?_ _));refine blk_far ?_ NB306_328.out _;(with_reducible repeat (first|refine blk_drewN ?_ _|refine blk_drew ?_|refine blk_alloc ?_ _));refine blk_far ?_ NB306_328.out _;(with_reducible repeat (first|refine blk_drewN ?_ _|refine blk_drew ?_|refine blk_alloc ?_ _));refine blk_far ?_ NB306_328.out _;(with_reducible repeat (first|refine blk_drewN ?_ _|refine blk_drew ?_|refine blk_alloc ?_ _));refine blk_far ?_ NB306_328.out _;(with_reducible repeat (first|refine blk_drewN ?_ _|refine blk_drew ?_|refine blk_alloc ?_ _));refine blk_far ?_ NB306_328.out _;(with_reducible repeat (first|refine blk_drewN ?_ _|refine blk_drew ?_|refine blk_alloc ?_ _));refine blk_far ?_ NB306_328.out _;(with_reducible repeat (first|refine blk_drewN ?_ _|refine blk_drew ?_|refine blk_alloc ?_ _));refine blk_far ?_ NB306_328.out _;(with_reducible repeat (first|refine blk_drewN ?_ _|refine blk_drew ?_|refine blk_alloc ?_ _));exact BK306.out⟩;have n1_:Aside0 (((((((((w90.setCell ⟨gb328,0,none⟩ (.string t313)).setCell ⟨gb328,1,none⟩ (.string t314)).setCell ⟨gb328,2,none⟩ (.int .i64 t315)).setCell ⟨gb328,3,none⟩ (.int .i64 t316)).setCell ⟨gb328,4,none⟩ (.bool t317)).setCell ⟨gb328,5,none⟩ (.int .i64 t318)).setCell ⟨gb328,6,none⟩ (.int .i64 t319)).setCell ⟨gb328,5,none⟩ (.int .i64 (wrap64 (t318 + 1)))).heap[gb307]?=some (.cells #[.bool true,.string (⟨#[119,119,119,46,98,97,110,107,46,99,111,109]⟩:ByteArray),.int .i64 443] 28 (0,0))):=⟨by (with_reducible repeat (first|refine blk_drewN ?_ _|refine blk_drew ?_|refine blk_alloc ?_ _));refine blk_far ?_ NB307_328.out _;(with_reducible repeat (first|refine blk_drewN ?_ _|refine blk_drew ?_|refine blk_alloc ?_ _));refine blk_far ?_ NB307_328.out _;(with_reducible repeat (first|refine blk_drewN ?_ _|refine blk_drew ?_|refine blk_alloc ?_ _));refine blk_far ?_ NB307_328.out _;(with_reducible repeat (first|refine blk_drewN ?_ _|refine blk_drew ?_|refine blk_alloc ?_ _));refine blk_far ?_ NB307_328.out _;(with_reducible repeat (first|refine blk_drewN ?_ _|refine blk_drew ?_|refine blk_alloc ?_ _));refine blk_far ?_ NB307_328.out _;(with_reducible repeat (first|refine blk_drewN ?_ _|refine blk_drew ?_|refine blk_alloc ?_ _));refine blk_far ?_ NB307_328.out _;(with_reducible repeat (first|refine blk_drewN ?_ _|refine blk_drew ?_|refine blk_alloc ?_ _));refine blk_far ?_ NB307_328.out _;(with_reducible repeat (first|refine blk_drewN ?_ _|refine blk_drew ?_|refine blk_alloc ?_ _));refine blk_far ?_ NB307_328.out _;(with_reducible repeat (first|refine blk_drewN ?_ _|refine blk_drew ?_|refine blk_alloc ?_ _));exact BK307.out⟩;have n2_:Aside0 (((((((((w90.setCell ⟨gb328,0,none⟩ (.string t313)).setCell ⟨gb328,1,none⟩ (.string t314)).setCell ⟨gb328,2,none⟩ (.int .i64 t315)).setCell ⟨gb328,3,none⟩ (.int .i64 t316)).setCell ⟨gb328,4,none⟩ (.bool t317)).setCell ⟨gb328,5,none⟩ (.int .i64 t318)).setCell ⟨gb328,6,none⟩ (.int .i64 t319)).setCell ⟨gb328,5,none⟩ (.int .i64 (wrap64 (t318 + 1)))).heap[gb321]?=some (.cells #[.int .i64 t309,.int .i64 t310,.int .i64 t311,.int .i64 t312] 26 (0,0))):=⟨by (with_reducible repeat (first|refine blk_drewN ?_ _|refine blk_drew ?_|refine blk_alloc ?_ _));refine blk_far ?_ NB321_328.out _;(with_reducible repeat (first|refine blk_drewN ?_ _|refine blk_drew ?_|refine blk_alloc ?_ _));refine blk_far ?_ NB321_328.out _;(with_reducible repeat (first|refine blk_drewN ?_ _|refine blk_drew ?_|refine blk_alloc ?_ _));refine blk_far ?_ NB321_328.out _;(with_reducible repeat (first|refine blk_drewN ?_ _|refine blk_drew ?_|refine blk_alloc ?_ _));refine blk_far ?_ NB321_328.out _;(with_reducible repeat (first|refine blk_drewN ?_ _|refine blk_drew ?_|refine blk_alloc ?_ _));refine blk_far ?_ NB321_328.out _;(with_reducible repeat (first|refine blk_drewN ?_ _|refine blk_drew ?_|refine blk_alloc ?_ _));refine blk_far ?_ NB321_328.out _;(with_reducible repeat (first|refine blk_drewN ?_ _|refine blk_drew ?_|refine blk_alloc ?_ _));refine blk_far ?_ NB321_328.out _;(with_reducible repeat (first|refine blk_drewN ?_ _|refine blk_drew ?_|refine blk_alloc ?_ _));refine blk_far ?_ NB321_328.out _;(with_reducible repeat (first|refine blk_drewN ?_ _|refine blk_drew ?_|refine blk_alloc ?_ _));exact BK321.out⟩;have n3_:Aside0 (((((((((w90.setCell ⟨gb328,0,none⟩ (.string t313)).setCell ⟨gb328,1,none⟩ (.string t314)).setCell ⟨gb328,2,none⟩ (.int .i64 t315)).setCell ⟨gb328,3,none⟩ (.int .i64 t316)).setCell ⟨gb328,4,none⟩ (.bool t317)).setCell ⟨gb328,5,none⟩ (.int .i64 t318)).setCell ⟨gb328,6,none⟩ (.int .i64 t319)).setCell ⟨gb328,5,none⟩ (.int .i64 (wrap64 (t318 + 1)))).heap[gb322]?=some (.cells #[.string t313,.string t314,.int .i64 t315,.int .i64 t316,.bool t317,.int .i64 t318,.int .i64 t319] 30 (0,0))):=⟨by (with_reducible repeat (first|refine blk_drewN ?_ _|refine blk_drew ?_|refine blk_alloc ?_ _));refine blk_far ?_ NB322_328.out _;(with_reducible repeat (first|refine blk_drewN ?_ _|refine blk_drew ?_|refine blk_alloc ?_ _));refine blk_far ?_ NB322_328.out _;(with_reducible repeat (first|refine blk_drewN ?_ _|refine blk_drew ?_|refine blk_alloc ?_ _));refine blk_far ?_ NB322_328.out _;(with_reducible repeat (first|refine blk_drewN ?_ _|refine blk_drew ?_|refine blk_alloc ?_ _));refine blk_far ?_ NB322_328.out _;(with_reducible repeat (first|refine blk_drewN ?_ _|refine blk_drew ?_|refine blk_alloc ?_ _));refine blk_far ?_ NB322_328.out _;(with_reducible repeat (first|refine blk_drewN ?_ _|refine blk_drew ?_|refine blk_alloc ?_ _));refine blk_far ?_ NB322_328.out _;(with_reducible repeat (first|refine blk_drewN ?_ _|refine blk_drew ?_|refine blk_alloc ?_ _));refine blk_far ?_ NB322_328.out _;(with_reducible repeat (first|refine blk_drewN ?_ _|refine blk_drew ?_|refine blk_alloc ?_ _));refine blk_far ?_ NB322_328.out _;(with_reducible repeat (first|refine blk_drewN ?_ _|refine blk_drew ?_|refine blk_alloc ?_ _));exact BK322.out⟩;have n4_:Aside0 (((((((((w90.setCell ⟨gb328,0,none⟩ (.string t313)).setCell ⟨gb328,1,none⟩ (.string t314)).setCell ⟨gb328,2,none⟩ (.int .i64 t315)).setCell ⟨gb328,3,none⟩ (.int .i64 t316)).setCell ⟨gb328,4,none⟩ (.bool t317)).setCell ⟨gb328,5,none⟩ (.int .i64 t318)).setCell ⟨gb328,6,none⟩ (.int .i64 t319)).setCell ⟨gb328,5,none⟩ (.int .i64 (wrap64 (t318 + 1)))).heap[gb326]?=some (.cells #[.string t313,.string t314,.int .i64 t315,.int .i64 t316,.bool false,.int .i64 t318,.int .i64 t319] 30 (0,0))):=⟨by (with_reducible repeat (first|refine blk_drewN ?_ _|refine blk_drew ?_|refine blk_alloc ?_ _));refine blk_far ?_ NB326_328.out _;(with_reducible repeat (first|refine blk_drewN ?_ _|refine blk_drew ?_|refine blk_alloc ?_ _));refine blk_far ?_ NB326_328.out _;(with_reducible repeat (first|refine blk_drewN ?_ _|refine blk_drew ?_|refine blk_alloc ?_ _));refine blk_far ?_ NB326_328.out _;(with_reducible repeat (first|refine blk_drewN ?_ _|refine blk_drew ?_|refine blk_alloc ?_ _));refine blk_far ?_ NB326_328.out _;(with_reducible repeat (first|refine blk_drewN ?_ _|refine blk_drew ?_|refine blk_alloc ?_ _));refine blk_far ?_ NB326_328.out _;(with_reducible repeat (first|refine blk_drewN ?_ _|refine blk_drew ?_|refine blk_alloc ?_ _));refine blk_far ?_ NB326_328.out _;(with_reducible repeat (first|refine blk_drewN ?_ _|refine blk_drew ?_|refine blk_alloc ?_ _));refine blk_far ?_ NB326_328.out _;(with_reducible repeat (first|refine blk_drewN ?_ _|refine blk_drew ?_|refine blk_alloc ?_ _));refine blk_far ?_ NB326_328.out _;(with_reducible repeat (first|refine blk_drewN ?_ _|refine blk_drew ?_|refine blk_alloc ?_ _));exact BK326.out⟩;have n5_:Aside0 (((((((((w90.setCell ⟨gb328,0,none⟩ (.string t313)).setCell ⟨gb328,1,none⟩ (.string t314)).setCell ⟨gb328,2,none⟩ (.int .i64 t315)).setCell ⟨gb328,3,none⟩ (.int .i64 t316)).setCell ⟨gb328,4,none⟩ (.bool t317)).setCell ⟨gb328,5,none⟩ (.int .i64 t318)).setCell ⟨gb328,6,none⟩ (.int .i64 t319)).setCell ⟨gb328,5,none⟩ (.int .i64 (wrap64 (t318 + 1)))).heap[gb327]?=some (.cells #[.string t313,.string (⟨#[104,116,116,112,115,58,47,47,98,97,110,107,46,99,111,109]⟩:ByteArray),.int .i64 t315,.int .i64 t316,.bool t317,.int .i64 t318,.int .i64 t319] 30 (0,0))):=⟨by (with_reducible repeat (first|refine blk_drewN ?_ _|refine blk_drew ?_|refine blk_alloc ?_ _));refine blk_far ?_ NB327_328.out _;(with_reducible repeat (first|refine blk_drewN ?_ _|refine blk_drew ?_|refine blk_alloc ?_ _));refine blk_far ?_ NB327_328.out _;(with_reducible repeat (first|refine blk_drewN ?_ _|refine blk_drew ?_|refine blk_alloc ?_ _));refine blk_far ?_ NB327_328.out _;(with_reducible repeat (first|refine blk_drewN ?_ _|refine blk_drew ?_|refine blk_alloc ?_ _));refine blk_far ?_ NB327_328.out _;(with_reducible repeat (first|refine blk_drewN ?_ _|refine blk_drew ?_|refine blk_alloc ?_ _));refine blk_far ?_ NB327_328.out _;(with_reducible repeat (first|refine blk_drewN ?_ _|refine blk_drew ?_|refine blk_alloc ?_ _));refine blk_far ?_ NB327_328.out _;(with_reducible repeat (first|refine blk_drewN ?_ _|refine blk_drew ?_|refine blk_alloc ?_ _));refine blk_far ?_ NB327_328.out _;(with_reducible repeat (first|refine blk_drewN ?_ _|refine blk_drew ?_|refine blk_alloc ?_ _));refine blk_far ?_ NB327_328.out _;(with_reducible repeat (first|refine blk_drewN ?_ _|refine blk_drew ?_|refine blk_alloc ?_ _));exact BK327.out⟩;have n6_:Aside0 (((((((((w90.setCell ⟨gb328,0,none⟩ (.string t313)).setCell ⟨gb328,1,none⟩ (.string t314)).setCell ⟨gb328,2,none⟩ (.int .i64 t315)).setCell ⟨gb328,3,none⟩ (.int .i64 t316)).setCell ⟨gb328,4,none⟩ (.bool t317)).setCell ⟨gb328,5,none⟩ (.int .i64 t318)).setCell ⟨gb328,6,none⟩ (.int .i64 t319)).setCell ⟨gb328,5,none⟩ (.int .i64 (wrap64 (t318 + 1)))).heap[gb328]?=some (.cells #[.string t313,.string t314,.int .i64 t315,.int .i64 t316,.bool t317,.int .i64 (wrap64 (t318 + 1)),.int .i64 t319] 30 (0,0))):=⟨by (with_reducible repeat (first|refine blk_drewN ?_ _|refine blk_drew ?_|refine blk_alloc ?_ _));refine blk_put (cs:=#[.string t313,.string t314,.int .i64 t315,.int .i64 t316,.bool t317,.int .i64 t318,.int .i64 t319]) ?_ 5 _ rfl;(with_reducible repeat (first|refine blk_drewN ?_ _|refine blk_drew ?_|refine blk_alloc ?_ _));refine blk_put (cs:=#[.string t313,.string t314,.int .i64 t315,.int .i64 t316,.bool t317,.int .i64 t318,.int .i64 0]) ?_ 6 _ rfl;(with_reducible repeat (first|refine blk_drewN ?_ _|refine blk_drew ?_|refine blk_alloc ?_ _));refine blk_put (cs:=#[.string t313,.string t314,.int .i64 t315,.int .i64 t316,.bool t317,.int .i64 0,.int .i64 0]) ?_ 5 _ rfl;(with_reducible repeat (first|refine blk_drewN ?_ _|refine blk_drew ?_|refine blk_alloc ?_ _));refine blk_put (cs:=#[.string t313,.string t314,.int .i64 t315,.int .i64 t316,.bool false,.int .i64 0,.int .i64 0]) ?_ 4 _ rfl;(with_reducible repeat (first|refine blk_drewN ?_ _|refine blk_drew ?_|refine blk_alloc ?_ _));refine blk_put (cs:=#[.string t313,.string t314,.int .i64 t315,.int .i64 0,.bool false,.int .i64 0,.int .i64 0]) ?_ 3 _ rfl;(with_reducible repeat (first|refine blk_drewN ?_ _|refine blk_drew ?_|refine blk_alloc ?_ _));refine blk_put (cs:=#[.string t313,.string t314,.int .i64 0,.int .i64 0,.bool false,.int .i64 0,.int .i64 0]) ?_ 2 _ rfl;(with_reducible repeat (first|refine blk_drewN ?_ _|refine blk_drew ?_|refine blk_alloc ?_ _));refine blk_put (cs:=#[.string t313,.string (⟨#[]⟩:ByteArray),.int .i64 0,.int .i64 0,.bool false,.int .i64 0,.int .i64 0]) ?_ 1 _ rfl;(with_reducible repeat (first|refine blk_drewN ?_ _|refine blk_drew ?_|refine blk_alloc ?_ _));refine blk_put (cs:=#[.string (⟨#[]⟩:ByteArray),.string (⟨#[]⟩:ByteArray),.int .i64 0,.int .i64 0,.bool false,.int .i64 0,.int .i64 0]) ?_ 0 _ rfl;(with_reducible repeat (first|refine blk_drewN ?_ _|refine blk_drew ?_|refine blk_alloc ?_ _));exact BK328.out⟩;have n7_:Aside0 (Below w.heap.size w ((((((((w90.setCell ⟨gb328,0,none⟩ (.string t313)).setCell ⟨gb328,1,none⟩ (.string t314)).setCell ⟨gb328,2,none⟩ (.int .i64 t315)).setCell ⟨gb328,3,none⟩ (.int .i64 t316)).setCell ⟨gb328,4,none⟩ (.bool t317)).setCell ⟨gb328,5,none⟩ (.int .i64 t318)).setCell ⟨gb328,6,none⟩ (.int .i64 t319)).setCell ⟨gb328,5,none⟩ (.int .i64 (wrap64 (t318 + 1))))):=⟨by repeat (first|(with_reducible first|exact HB.out|apply below_alloc|apply pw_below_drewN|apply below_drew1|refine below_set ?_ GE306.out|refine below_set ?_ GE307.out|refine below_set ?_ GE321.out|refine below_set ?_ GE322.out|refine below_set ?_ GE326.out|refine below_set ?_ GE327.out|refine below_set ?_ GE328.out)|exact HB.out)⟩;(try clear BK306);(try clear BK307);(try clear BK321);(try clear BK322);(try clear BK326);(try clear BK327);(try clear BK328);(try clear HB);generalize ((((((((w90.setCell ⟨gb328,0,none⟩ (.string t313)).setCell ⟨gb328,1,none⟩ (.string t314)).setCell ⟨gb328,2,none⟩ (.int .i64 t315)).setCell ⟨gb328,3,none⟩ (.int .i64 t316)).setCell ⟨gb328,4,none⟩ (.bool t317)).setCell ⟨gb328,5,none⟩ (.int .i64 t318)).setCell ⟨gb328,6,none⟩ (.int .i64 t319)).setCell ⟨gb328,5,none⟩ (.int .i64 (wrap64 (t318 + 1))))=w99 at n0_ n1_ n2_ n3_ n4_ n5_ n6_ n7_ ⊢;have BK306:=n0_;have BK307:=n1_;have BK321:=n2_;have BK322:=n3_;have BK326:=n4_;have BK327:=n5_;have BK328:=n6_;have HB:=n7_;clear n0_ n1_ n2_ n3_ n4_ n5_ n6_ n7_;replace BK306:=Am10_ (blk_drew BK306.out);replace BK307:=Am10_ (blk_drew BK307.out);replace BK321:=Am10_ (blk_drew BK321.out);replace BK322:=Am10_ (blk_drew BK322.out);replace BK326:=Am10_ (blk_drew BK326.out);replace BK327:=Am10_ (blk_drew BK327.out);replace BK328:=Am10_ (blk_drew BK328.out);replace HB:=Am10_ (below_drew1 HB.out);refine start_ (n:=81) (S:=fun w' => w'.cell? ⟨gb322,0,none⟩=some (.string t313)∧w'.cell? ⟨gb322,1,none⟩=some (.string t314)∧w'.cell? ⟨gb322,2,none⟩=some (.int .i64 t315)∧w'.cell? ⟨gb322,3,none⟩=some (.int .i64 t316)∧w'.cell? ⟨gb322,4,none⟩=some (.bool t317)∧w'.cell? ⟨gb322,5,none⟩=some (.int .i64 t318)∧w'.cell? ⟨gb322,6,none⟩=some (.int .i64 t319)∧w'.cell? ⟨gb306,0,none⟩=some (.int .i64 1)∧w'.cell? ⟨gb306,1,none⟩=some (.int .i64 2)∧w'.cell? ⟨gb306,2,none⟩=some (.int .i64 (wrap64 (1 + t304)))∧w'.cell? ⟨gb306,3,none⟩=some (.int .i64 t305)∧w'.cell? ⟨gb326,0,none⟩=some (.string t313)∧w'.cell? ⟨gb326,1,none⟩=some (.string t314)∧w'.cell? ⟨gb326,2,none⟩=some (.int .i64 t315)∧w'.cell? ⟨gb326,3,none⟩=some (.int .i64 t316)∧w'.cell? ⟨gb326,4,none⟩=some (.bool false)∧w'.cell? ⟨gb326,5,none⟩=some (.int .i64 t318)∧w'.cell? ⟨gb326,6,none⟩=some (.int .i64 t319)∧w'.cell? ⟨gb327,0,none⟩=some (.string t313)∧w'.cell? ⟨gb327,1,none⟩=some (.string (⟨#[104,116,116,112,115,58,47,47,98,97,110,107,46,99,111,109]⟩:ByteArray))∧w'.cell? ⟨gb327,2,none⟩=some (.int .i64 t315)∧w'.cell? ⟨gb327,3,none⟩=some (.int .i64 t316)∧w'.cell? ⟨gb327,4,none⟩=some (.bool t317)∧w'.cell? ⟨gb327,5,none⟩=some (.int .i64 t318)∧w'.cell? ⟨gb327,6,none⟩=some (.int .i64 t319)∧w'.cell? ⟨gb328,0,none⟩=some (.string t313)∧w'.cell? ⟨gb328,1,none⟩=some (.string t314)∧w'.cell? ⟨gb328,2,none⟩=some (.int .i64 t315)∧w'.cell? ⟨gb328,3,none⟩=some (.int .i64 t316)∧w'.cell? ⟨gb328,4,none⟩=some (.bool t317)∧w'.cell? ⟨gb328,5,none⟩=some (.int .i64 (wrap64 (t318 + 1)))∧w'.cell? ⟨gb328,6,none⟩=some (.int .i64 t319)∧w'.cell? ⟨gb321,0,none⟩=some (.int .i64 t309)∧w'.cell? ⟨gb321,1,none⟩=some (.int .i64 t310)∧w'.cell? ⟨gb321,2,none⟩=some (.int .i64 t311)∧w'.cell? ⟨gb321,3,none⟩=some (.int .i64 t312)) (ds:=[]) #[false,false,false,false,false,false,false,false,false,false,false,false,false,false,false,false,false,false,false,false,false,false,false,false,false,false,false,false,false,false,false,false,false,false,false,false,false,false,false,false,false,false,false,false,false,false,false,false,false,false,false,false,false,false,false,false,false,false,false,false,false,false,false,false,false,false,false,false,false,false,false,false,false,false,false,false,false,false,false,false,false] (by kernel_rfl) rfl rfl ⟨q_ BK322 0 rfl,q_ BK322 1 rfl,q_ BK322 2 rfl,q_ BK322 3 rfl,q_ BK322 4 rfl,q_ BK322 5 rfl,q_ BK322 6 rfl,q_ BK306 0 rfl,q_ BK306 1 rfl,q_ BK306 2 rfl,q_ BK306 3 rfl,q_ BK326 0 rfl,q_ BK326 1 rfl,q_ BK326 2 rfl,q_ BK326 3 rfl,q_ BK326 4 rfl,q_ BK326 5 rfl,q_ BK326 6 rfl,q_ BK327 0 rfl,q_ BK327 1 rfl,q_ BK327 2 rfl,q_ BK327 3 rfl,q_ BK327 4 rfl,q_ BK327 5 rfl,q_ BK327 6 rfl,q_ BK328 0 rfl,q_ BK328 1 rfl,q_ BK328 2 rfl,q_ BK328 3 rfl,q_ BK328 4 rfl,q_ BK328 5 rfl,q_ BK328 6 rfl,q_ BK321 0 rfl,q_ BK321 1 rfl,q_ BK321 2 rfl,q_ BK321 3 rfl⟩ (fun hHeld => ?_);refine with_tabW laws_FnAssertions.tab15 laws_FnAssertions.bits15 (fun HT_ HW_ => ?_);generalize w99.drew=w100 at BK306 BK307 BK321 BK322 BK326 BK327 BK328 HB hHeld ⊢;refine pure_ (i:=0) (N:=some 61) (v:=?_) (a':=?_) #[true,false,false,false,false,false,false,false,false,false,false,false,false,false,false,false,false,false,false,false,false,false,false,false,false,false,false,false,false,false,false,false,false,false,false,false,false,false,false,false,false,false,false,false,false,false,false,false,false,false,false,false,false,false,false,false,false,false,false,false,false,false,false,false,false,false,false,false,false,false,false,false,false,false,false,false,false,false,false,false,false] rfl rfl (any_of HT_.out (by kernel_rfl)) (fun _ _ _ h => h) (Or.inl ⟨by rfl,?_⟩) ?_ ?_;rotate_left
             ·intro w'
              go_simp
              with_reducible rfl
             rotate_left
             ·simp only [Act.put,Sa_,Sb_,Sc_,i64_w,i32_w]
              rfl
             refine pure_ (i:=2) (N:=some 63) (v:=?_) (a':=?_) #[true,false,true,false,false,false,false,false,false,false,false,false,false,false,false,false,false,false,false,false,false,false,false,false,false,false,false,false,false,false,false,false,false,false,false,false,false,false,false,false,false,false,false,false,false,false,false,false,false,false,false,false,false,false,false,false,false,false,false,false,false,false,false,false,false,false,false,false,false,false,false,false,false,false,false,false,false,false,false,false,false] rfl rfl (any_of HT_.out (by kernel_rfl)) (fun _ _ _ h => h) (Or.inl ⟨by rfl,?_⟩) ?_ ?_;rotate_left
             ·intro w'
              go_simp
              with_reducible rfl
             rotate_left
             ·simp only [Act.put,Sa_,Sb_,Sc_,i64_w,i32_w]
              rfl
             refine pure_ (i:=5) (N:=some 66) (v:=?_) (a':=?_) #[true,false,true,false,false,true,false,false,false,false,false,false,false,false,false,false,false,false,false,false,false,false,false,false,false,false,false,false,false,false,false,false,false,false,false,false,false,false,false,false,false,false,false,false,false,false,false,false,false,false,false,false,false,false,false,false,false,false,false,false,false,false,false,false,false,false,false,false,false,false,false,false,false,false,false,false,false,false,false,false,false] rfl rfl (any_of HT_.out (by kernel_rfl)) (fun _ _ _ h => h) (Or.inl ⟨by rfl,?_⟩) ?_ ?_;rotate_left
             ·intro w'
              go_simp
              with_reducible rfl
             rotate_left
             ·simp only [Act.put,Sa_,Sb_,Sc_,i64_w,i32_w]
              rfl
             refine take_ (i:=1) (N:=some 62) (v:=?_) (a':=?_) #[true,true,true,false,false,true,false,false,false,false,false,false,false,false,false,false,false,false,false,false,false,false,false,false,false,false,false,false,false,false,false,false,false,false,false,false,false,false,false,false,false,false,false,false,false,false,false,false,false,false,false,false,false,false,false,false,false,false,false,false,false,false,false,false,false,false,false,false,false,false,false,false,false,false,false,false,false,false,false,false,false] rfl rfl (take_ofW HT_.out HW_.out (by kernel_rfl)) (fun _ _ _ h => h) (Or.inl ⟨by rfl,?_⟩) hHeld ?_ ?_;rotate_left
             ·rintro w' ⟨s0,s1,s2,s3,s4,s5,s6,s7,s8,s9,s10,s11,s12,s13,s14,s15,s16,s17,s18,s19,s20,s21,s22,s23,s24,s25,s26,s27,s28,s29,s30,s31,s32,s33,s34,s35⟩
              go_simp
              with_reducible rfl
             rotate_left
             ·simp only [Act.put,Sa_,Sb_,Sc_,i64_w,i32_w]
              rfl
             refine take_ (i:=6) (N:=some 67) (v:=?_) (a':=?_) #[true,true,true,false,false,true,true,false,false,false,false,false,false,false,false,false,false,false,false,false,false,false,false,false,false,false,false,false,false,false,false,false,false,false,false,false,false,false,false,false,false,false,false,false,false,false,false,false,false,false,false,false,false,false,false,false,false,false,false,false,false,false,false,false,false,false,false,false,false,false,false,false,false,false,false,false,false,false,false,false,false] rfl rfl (take_ofW HT_.out HW_.out (by kernel_rfl)) (fun _ _ _ h => h) (Or.inl ⟨by rfl,?_⟩) hHeld ?_ ?_;rotate_left
             ·rintro w' ⟨s0,s1,s2,s3,s4,s5,s6,s7,s8,s9,s10,s11,s12,s13,s14,s15,s16,s17,s18,s19,s20,s21,s22,s23,s24,s25,s26,s27,s28,s29,s30,s31,s32,s33,s34,s35⟩
              go_simp
              with_reducible rfl
             rotate_left
             ·simp only [Act.put,Sa_,Sb_,Sc_,i64_w,i32_w]
              rfl
             refine one_ (i:=3) (N:=some 64) #[true,true,true,true,false,true,true,false,false,false,false,false,false,false,false,false,false,false,false,false,false,false,false,false,false,false,false,false,false,false,false,false,false,false,false,false,false,false,false,false,false,false,false,false,false,false,false,false,false,false,false,false,false,false,false,false,false,false,false,false,false,false,false,false,false,false,false,false,false,false,false,false,false,false,false,false,false,false,false,false,false] rfl rfl (one_of HT_.out (by kernel_rfl)) (by decide) (fun K hK => ?_);refine goes_ Tryz.func8 (by kernel_rfl) rfl #[.slice A0 l0.length c0,.int .i64 2] (by rfl) rfl rfl (by (try simp only [Sd_,Se_,Sf_]);first|done|rfl|(simp only [Sg_,Sh_];rfl)) ?_;with_reducible refine (laws_at.calls _ _ l0 2 t329 _ ?side1 ?side2 A46.out).mono ?_
             (case side1 => repeat (first|exact (Kd.C_below HR0.out HB.out)|(with_reducible refine Kd.C_alloc ?_ _)|(with_reducible refine Kd.C_drewN ?_ _)|(with_reducible refine Kd.C_drew ?_)))
             (case side2 => exact HC0.out)
             rintro e w' ⟨rfl,⟨nd,rfl⟩⟩;refine ⟨_,rfl,?_⟩;refine hK.out _ _ ⟨q_ BK322 0 rfl,q_ BK322 1 rfl,q_ BK322 2 rfl,q_ BK322 3 rfl,q_ BK322 4 rfl,q_ BK322 5 rfl,q_ BK322 6 rfl,q_ BK306 0 rfl,q_ BK306 1 rfl,q_ BK306 2 rfl,q_ BK306 3 rfl,q_ BK326 0 rfl,q_ BK326 1 rfl,q_ BK326 2 rfl,q_ BK326 3 rfl,q_ BK326 4 rfl,q_ BK326 5 rfl,q_ BK326 6 rfl,q_ BK327 0 rfl,q_ BK327 1 rfl,q_ BK327 2 rfl,q_ BK327 3 rfl,q_ BK327 4 rfl,q_ BK327 5 rfl,q_ BK327 6 rfl,q_ BK328 0 rfl,q_ BK328 1 rfl,q_ BK328 2 rfl,q_ BK328 3 rfl,q_ BK328 4 rfl,q_ BK328 5 rfl,q_ BK328 6 rfl,q_ BK321 0 rfl,q_ BK321 1 rfl,q_ BK321 2 rfl,q_ BK321 3 rfl⟩ (fun hHeld => ?_);clear hK K;refine norm_ (a':=?_) ?_ ?_;rotate_left
             ·show Act.put _ (some 64) _=_
              simp only [Act.put,Sa_,Sb_,Sc_,i64_w,i32_w]
              rfl
             refine pure_ (i:=4) (N:=some 65) (v:=?_) (a':=?_) #[true,true,true,true,true,true,true,false,false,false,false,false,false,false,false,false,false,false,false,false,false,false,false,false,false,false,false,false,false,false,false,false,false,false,false,false,false,false,false,false,false,false,false,false,false,false,false,false,false,false,false,false,false,false,false,false,false,false,false,false,false,false,false,false,false,false,false,false,false,false,false,false,false,false,false,false,false,false,false,false,false] rfl rfl (any_of HT_.out (by kernel_rfl)) (fun _ _ _ h => h) (Or.inl ⟨by rfl,?_⟩) ?_ ?_;rotate_left
             ·intro w'
              go_simp
              with_reducible rfl
             rotate_left
             ·simp only [Act.put,Sa_,Sb_,Sc_,i64_w,i32_w]
              rfl
             refine one_ (i:=7) (N:=some 68) #[true,true,true,true,true,true,true,true,false,false,false,false,false,false,false,false,false,false,false,false,false,false,false,false,false,false,false,false,false,false,false,false,false,false,false,false,false,false,false,false,false,false,false,false,false,false,false,false,false,false,false,false,false,false,false,false,false,false,false,false,false,false,false,false,false,false,false,false,false,false,false,false,false,false,false,false,false,false,false,false,false] rfl rfl (one_of HT_.out (by kernel_rfl)) (by decide) (fun K hK => ?_);refine goes_ Tryz.func11 (by kernel_rfl) rfl #[.int .i64 t323,.agg #[.string t313,.string t314,.int .i64 t315,.int .i64 t316,.bool t317,.int .i64 t318,.int .i64 t319],.string (⟨#[98,97,110,107,46,99,111,109]⟩:ByteArray),.int .i64 (wrap64 (t329 + 1)),.int .i64 t305] (by rfl) rfl rfl (by (try simp only [Sd_,Se_,Sf_]);first|done|rfl|(simp only [Sg_,Sh_];rfl)) ?_;with_reducible refine (impl_CheckAssertion.calls (ht_:=Man.tab_on HT.out (xe_ HB)) kj8 t323 t313 t314 t315 t316 t317 t318 t319 (⟨#[98,97,110,107,46,99,111,109]⟩:ByteArray) (wrap64 (t329 + 1)) t305 t330 _ A47.out).mono ?_;rintro e w101 ⟨rfl,hb⟩;refine ⟨_,rfl,?_⟩;replace BK306:=bb_ BK306 hb;replace BK307:=bb_ BK307 hb;replace BK321:=bb_ BK321 hb;replace BK322:=bb_ BK322 hb;replace BK326:=bb_ BK326 hb;replace BK327:=bb_ BK327 hb;replace BK328:=bb_ BK328 hb;replace HB:=bs_ HB hb;(try clear hb);(try clear hb2);(try clear hk);(try clear hi);refine hK.out _ _ ⟨q_ BK322 0 rfl,q_ BK322 1 rfl,q_ BK322 2 rfl,q_ BK322 3 rfl,q_ BK322 4 rfl,q_ BK322 5 rfl,q_ BK322 6 rfl,q_ BK306 0 rfl,q_ BK306 1 rfl,q_ BK306 2 rfl,q_ BK306 3 rfl,q_ BK326 0 rfl,q_ BK326 1 rfl,q_ BK326 2 rfl,q_ BK326 3 rfl,q_ BK326 4 rfl,q_ BK326 5 rfl,q_ BK326 6 rfl,q_ BK327 0 rfl,q_ BK327 1 rfl,q_ BK327 2 rfl,q_ BK327 3 rfl,q_ BK327 4 rfl,q_ BK327 5 rfl,q_ BK327 6 rfl,q_ BK328 0 rfl,q_ BK328 1 rfl,q_ BK328 2 rfl,q_ BK328 3 rfl,q_ BK328 4 rfl,q_ BK328 5 rfl,q_ BK328 6 rfl,q_ BK321 0 rfl,q_ BK321 1 rfl,q_ BK321 2 rfl,q_ BK321 3 rfl⟩ (fun hHeld => ?_);clear hK K;refine norm_ (a':=?_) ?_ ?_;rotate_left
             ·show Act.put _ (some 68) _=_
              simp only [Act.put,Sa_,Sb_,Sc_,i64_w,i32_w]
              rfl
             refine pure_ (i:=8) (N:=some 69) (v:=?_) (a':=?_) #[true,true,true,true,true,true,true,true,true,false,false,false,false,false,false,false,false,false,false,false,false,false,false,false,false,false,false,false,false,false,false,false,false,false,false,false,false,false,false,false,false,false,false,false,false,false,false,false,false,false,false,false,false,false,false,false,false,false,false,false,false,false,false,false,false,false,false,false,false,false,false,false,false,false,false,false,false,false,false,false,false] rfl rfl (any_of HT_.out (by kernel_rfl)) (fun _ _ _ h => h) (Or.inl ⟨by rfl,?_⟩) ?_ ?_;rotate_left
             ·intro w'
              go_simp
              with_reducible rfl
             rotate_left
             ·simp only [Act.put,Sa_,Sb_,Sc_,i64_w,i32_w]
              rfl
             refine pure_ (i:=9) (N:=some 70) (v:=?_) (a':=?_) #[true,true,true,true,true,true,true,true,true,true,false,false,false,false,false,false,false,false,false,false,false,false,false,false,false,false,false,false,false,false,false,false,false,false,false,false,false,false,false,false,false,false,false,false,false,false,false,false,false,false,false,false,false,false,false,false,false,false,false,false,false,false,false,false,false,false,false,false,false,false,false,false,false,false,false,false,false,false,false,false,false] rfl rfl (any_of HT_.out (by kernel_rfl)) (fun _ _ _ h => h) (Or.inl ⟨by rfl,?_⟩) ?_ ?_;rotate_left
             ·intro w'
              go_simp
              with_reducible rfl
             rotate_left
             ·simp only [Act.put,Sa_,Sb_,Sc_,i64_w,i32_w]
              rfl
             refine pure_ (i:=10) (N:=some 71) (v:=?_) (a':=?_) #[true,true,true,true,true,true,true,true,true,true,true,false,false,false,false,false,false,false,false,false,false,false,false,false,false,false,false,false,false,false,false,false,false,false,false,false,false,false,false,false,false,false,false,false,false,false,false,false,false,false,false,false,false,false,false,false,false,false,false,false,false,false,false,false,false,false,false,false,false,false,false,false,false,false,false,false,false,false,false,false,false] rfl rfl (any_of HT_.out (by kernel_rfl)) (fun _ _ _ h => h) (Or.inl ⟨by rfl,?_⟩) ?_ ?_;rotate_left
             ·intro w'
              go_simp
              with_reducible rfl
             rotate_left
             ·simp only [Act.put,Sa_,Sb_,Sc_,i64_w,i32_w]
              rfl
             refine pure_ (i:=12) (N:=some 73) (v:=?_) (a':=?_) #[true,true,true,true,true,true,true,true,true,true,true,false,true,false,false,false,false,false,false,false,false,false,false,false,false,false,false,false,false,false,false,false,false,false,false,false,false,false,false,false,false,false,false,false,false,false,false,false,false,false,false,false,false,false,false,false,false,false,false,false,false,false,false,false,false,false,false,false,false,false,false,false,false,false,false,false,false,false,false,false,false] rfl rfl (any_of HT_.out (by kernel_rfl)) (fun _ _ _ h => h) (Or.inl ⟨by rfl,?_⟩) ?_ ?_;rotate_left
             ·intro w'
              go_simp
              with_reducible rfl
             rotate_left
             ·simp only [Act.put,Sa_,Sb_,Sc_,i64_w,i32_w]
              rfl
             refine pure_ (i:=14) (N:=some 75) (v:=?_) (a':=?_) #[true,true,true,true,true,true,true,true,true,true,true,false,true,false,true,false,false,false,false,false,false,false,false,false,false,false,false,false,false,false,false,false,false,false,false,false,false,false,false,false,false,false,false,false,false,false,false,false,false,false,false,false,false,false,false,false,false,false,false,false,false,false,false,false,false,false,false,false,false,false,false,false,false,false,false,false,false,false,false,false,false] rfl rfl (any_of HT_.out (by kernel_rfl)) (fun _ _ _ h => h) (Or.inl ⟨by rfl,?_⟩) ?_ ?_;rotate_left
             ·intro w'
              go_simp
              with_reducible rfl
             rotate_left
             ·simp only [Act.put,Sa_,Sb_,Sc_,i64_w,i32_w]
              rfl
             refine take_ (i:=11) (N:=some 72) (v:=?_) (a':=?_) #[true,true,true,true,true,true,true,true,true,true,true,true,true,false,true,false,false,false,false,false,false,false,false,false,false,false,false,false,false,false,false,false,false,false,false,false,false,false,false,false,false,false,false,false,false,false,false,false,false,false,false,false,false,false,false,false,false,false,false,false,false,false,false,false,false,false,false,false,false,false,false,false,false,false,false,false,false,false,false,false,false] rfl rfl (take_ofW HT_.out HW_.out (by kernel_rfl)) (fun _ _ _ h => h) (Or.inl ⟨by rfl,?_⟩) hHeld ?_ ?_;rotate_left
             ·rintro w' ⟨s0,s1,s2,s3,s4,s5,s6,s7,s8,s9,s10,s11,s12,s13,s14,s15,s16,s17,s18,s19,s20,s21,s22,s23,s24,s25,s26,s27,s28,s29,s30,s31,s32,s33,s34,s35⟩
              go_simp
              with_reducible rfl
             rotate_left
             ·simp only [Act.put,Sa_,Sb_,Sc_,i64_w,i32_w]
              rfl
             refine take_ (i:=15) (N:=some 76) (v:=?_) (a':=?_) #[true,true,true,true,true,true,true,true,true,true,true,true,true,false,true,true,false,false,false,false,false,false,false,false,false,false,false,false,false,false,false,false,false,false,false,false,false,false,false,false,false,false,false,false,false,false,false,false,false,false,false,false,false,false,false,false,false,false,false,false,false,false,false,false,false,false,false,false,false,false,false,false,false,false,false,false,false,false,false,false,false] rfl rfl (take_ofW HT_.out HW_.out (by kernel_rfl)) (fun _ _ _ h => h) (Or.inl ⟨by rfl,?_⟩) hHeld ?_ ?_;rotate_left
             ·rintro w' ⟨s0,s1,s2,s3,s4,s5,s6,s7,s8,s9,s10,s11,s12,s13,s14,s15,s16,s17,s18,s19,s20,s21,s22,s23,s24,s25,s26,s27,s28,s29,s30,s31,s32,s33,s34,s35⟩
              go_simp
              with_reducible rfl
             rotate_left
             ·simp only [Act.put,Sa_,Sb_,Sc_,i64_w,i32_w]
              rfl
             refine one_ (i:=13) (N:=some 74) #[true,true,true,true,true,true,true,true,true,true,true,true,true,true,true,true,false,false,false,false,false,false,false,false,false,false,false,false,false,false,false,false,false,false,false,false,false,false,false,false,false,false,false,false,false,false,false,false,false,false,false,false,false,false,false,false,false,false,false,false,false,false,false,false,false,false,false,false,false,false,false,false,false,false,false,false,false,false,false,false,false] rfl rfl (one_of HT_.out (by kernel_rfl)) (by decide) (fun K hK => ?_);refine goes_ Tryz.func8 (by kernel_rfl) rfl #[.slice A0 l0.length c0,.int .i64 2] (by rfl) rfl rfl (by (try simp only [Sd_,Se_,Sf_]);first|done|rfl|(simp only [Sg_,Sh_];rfl)) ?_;with_reducible refine (laws_at.calls _ _ l0 2 t331 _ ?side1 ?side2 A49.out).mono ?_
             (case side1 => repeat (first|exact (Kd.C_below HR0.out HB.out)|(with_reducible refine Kd.C_alloc ?_ _)|(with_reducible refine Kd.C_drewN ?_ _)|(with_reducible refine Kd.C_drew ?_)))
             (case side2 => exact HC0.out)
             rintro e w' ⟨rfl,⟨nd,rfl⟩⟩;refine ⟨_,rfl,?_⟩;refine hK.out _ _ ⟨q_ BK322 0 rfl,q_ BK322 1 rfl,q_ BK322 2 rfl,q_ BK322 3 rfl,q_ BK322 4 rfl,q_ BK322 5 rfl,q_ BK322 6 rfl,q_ BK306 0 rfl,q_ BK306 1 rfl,q_ BK306 2 rfl,q_ BK306 3 rfl,q_ BK326 0 rfl,q_ BK326 1 rfl,q_ BK326 2 rfl,q_ BK326 3 rfl,q_ BK326 4 rfl,q_ BK326 5 rfl,q_ BK326 6 rfl,q_ BK327 0 rfl,q_ BK327 1 rfl,q_ BK327 2 rfl,q_ BK327 3 rfl,q_ BK327 4 rfl,q_ BK327 5 rfl,q_ BK327 6 rfl,q_ BK328 0 rfl,q_ BK328 1 rfl,q_ BK328 2 rfl,q_ BK328 3 rfl,q_ BK328 4 rfl,q_ BK328 5 rfl,q_ BK328 6 rfl,q_ BK321 0 rfl,q_ BK321 1 rfl,q_ BK321 2 rfl,q_ BK321 3 rfl⟩ (fun hHeld => ?_);clear hK K;refine norm_ (a':=?_) ?_ ?_;rotate_left
             ·show Act.put _ (some 74) _=_
              simp only [Act.put,Sa_,Sb_,Sc_,i64_w,i32_w]
              rfl
             refine one_ (i:=16) (N:=some 77) #[true,true,true,true,true,true,true,true,true,true,true,true,true,true,true,true,true,false,false,false,false,false,false,false,false,false,false,false,false,false,false,false,false,false,false,false,false,false,false,false,false,false,false,false,false,false,false,false,false,false,false,false,false,false,false,false,false,false,false,false,false,false,false,false,false,false,false,false,false,false,false,false,false,false,false,false,false,false,false,false,false] rfl rfl (one_of HT_.out (by kernel_rfl)) (by decide) (fun K hK => ?_);refine goes_ Tryz.func11 (by kernel_rfl) rfl #[.int .i64 t323,.agg #[.string t313,.string t314,.int .i64 t315,.int .i64 t316,.bool t317,.int .i64 t318,.int .i64 t319],.string (⟨#[115,104,111,112,46,111,114,103]⟩:ByteArray),.int .i64 t331,.int .i64 t305] (by rfl) rfl rfl (by (try simp only [Sd_,Se_,Sf_]);first|done|rfl|(simp only [Sg_,Sh_];rfl)) ?_;with_reducible refine (impl_CheckAssertion.calls (ht_:=Man.tab_on HT.out (xe_ HB)) kj8 t323 t313 t314 t315 t316 t317 t318 t319 (⟨#[115,104,111,112,46,111,114,103]⟩:ByteArray) t331 t305 t332 _ A50.out).mono ?_;rintro e w102 ⟨rfl,hb⟩;refine ⟨_,rfl,?_⟩;replace BK306:=bb_ BK306 hb;replace BK307:=bb_ BK307 hb;replace BK321:=bb_ BK321 hb;replace BK322:=bb_ BK322 hb;replace BK326:=bb_ BK326 hb;replace BK327:=bb_ BK327 hb;replace BK328:=bb_ BK328 hb;replace HB:=bs_ HB hb;(try clear hb);(try clear hb2);(try clear hk);(try clear hi);refine hK.out _ _ ⟨q_ BK322 0 rfl,q_ BK322 1 rfl,q_ BK322 2 rfl,q_ BK322 3 rfl,q_ BK322 4 rfl,q_ BK322 5 rfl,q_ BK322 6 rfl,q_ BK306 0 rfl,q_ BK306 1 rfl,q_ BK306 2 rfl,q_ BK306 3 rfl,q_ BK326 0 rfl,q_ BK326 1 rfl,q_ BK326 2 rfl,q_ BK326 3 rfl,q_ BK326 4 rfl,q_ BK326 5 rfl,q_ BK326 6 rfl,q_ BK327 0 rfl,q_ BK327 1 rfl,q_ BK327 2 rfl,q_ BK327 3 rfl,q_ BK327 4 rfl,q_ BK327 5 rfl,q_ BK327 6 rfl,q_ BK328 0 rfl,q_ BK328 1 rfl,q_ BK328 2 rfl,q_ BK328 3 rfl,q_ BK328 4 rfl,q_ BK328 5 rfl,q_ BK328 6 rfl,q_ BK321 0 rfl,q_ BK321 1 rfl,q_ BK321 2 rfl,q_ BK321 3 rfl⟩ (fun hHeld => ?_);clear hK K;refine norm_ (a':=?_) ?_ ?_;rotate_left
             ·show Act.put _ (some 77) _=_
              simp only [Act.put,Sa_,Sb_,Sc_,i64_w,i32_w]
              rfl
             refine pure_ (i:=17) (N:=some 78) (v:=?_) (a':=?_) #[true,true,true,true,true,true,true,true,true,true,true,true,true,true,true,true,true,true,false,false,false,false,false,false,false,false,false,false,false,false,false,false,false,false,false,false,false,false,false,false,false,false,false,false,false,false,false,false,false,false,false,false,false,false,false,false,false,false,false,false,false,false,false,false,false,false,false,false,false,false,false,false,false,false,false,false,false,false,false,false,false] rfl rfl (any_of HT_.out (by kernel_rfl)) (fun _ _ _ h => h) (Or.inl ⟨by rfl,?_⟩) ?_ ?_;rotate_left
             ·intro w'
              go_simp
              with_reducible rfl
             rotate_left
             ·simp only [Act.put,Sa_,Sb_,Sc_,i64_w,i32_w]
              rfl
             refine pure_ (i:=18) (N:=some 79) (v:=?_) (a':=?_) #[true,true,true,true,true,true,true,true,true,true,true,true,true,true,true,true,true,true,true,false,false,false,false,false,false,false,false,false,false,false,false,false,false,false,false,false,false,false,false,false,false,false,false,false,false,false,false,false,false,false,false,false,false,false,false,false,false,false,false,false,false,false,false,false,false,false,false,false,false,false,false,false,false,false,false,false,false,false,false,false,false] rfl rfl (any_of HT_.out (by kernel_rfl)) (fun _ _ _ h => h) (Or.inl ⟨by rfl,?_⟩) ?_ ?_;rotate_left
             ·intro w'
              go_simp
              with_reducible rfl
             rotate_left
             ·simp only [Act.put,Sa_,Sb_,Sc_,i64_w,i32_w]
              rfl
             refine pure_ (i:=19) (N:=some 80) (v:=?_) (a':=?_) #[true,true,true,true,true,true,true,true,true,true,true,true,true,true,true,true,true,true,true,true,false,false,false,false,false,false,false,false,false,false,false,false,false,false,false,false,false,false,false,false,false,false,false,false,false,false,false,false,false,false,false,false,false,false,false,false,false,false,false,false,false,false,false,false,false,false,false,false,false,false,false,false,false,false,false,false,false,false,false,false,false] rfl rfl (any_of HT_.out (by kernel_rfl)) (fun _ _ _ h => h) (Or.inl ⟨by rfl,?_⟩) ?_ ?_;rotate_left
             ·intro w'
              go_simp
              with_reducible rfl
             rotate_left
             ·simp only [Act.put,Sa_,Sb_,Sc_,i64_w,i32_w]
              rfl
             refine pure_ (i:=20) (N:=some 81) (v:=?_) (a':=?_) #[true,true,true,true,true,true,true,true,true,true,true,true,true,true,true,true,true,true,true,true,true,false,false,false,false,false,false,false,false,false,false,false,false,false,false,false,false,false,false,false,false,false,false,false,false,false,false,false,false,false,false,false,false,false,false,false,false,false,false,false,false,false,false,false,false,false,false,false,false,false,false,false,false,false,false,false,false,false,false,false,false] rfl rfl (any_of HT_.out (by kernel_rfl)) (fun _ _ _ h => h) (Or.inl ⟨by rfl,?_⟩) ?_ ?_;rotate_left
             ·intro w'
              go_simp
              with_reducible rfl
             rotate_left
             ·simp only [Act.put,Sa_,Sb_,Sc_,i64_w,i32_w]
              rfl
             refine pure_ (i:=22) (N:=some 83) (v:=?_) (a':=?_) #[true,true,true,true,true,true,true,true,true,true,true,true,true,true,true,true,true,true,true,true,true,false,true,false,false,false,false,false,false,false,false,false,false,false,false,false,false,false,false,false,false,false,false,false,false,false,false,false,false,false,false,false,false,false,false,false,false,false,false,false,false,false,false,false,false,false,false,false,false,false,false,false,false,false,false,false,false,false,false,false,false] rfl rfl (any_of HT_.out (by kernel_rfl)) (fun _ _ _ h => h) (Or.inl ⟨by rfl,?_⟩) ?_ ?_;rotate_left
             ·intro w'
              go_simp
              with_reducible rfl
             rotate_left
             ·simp only [Act.put,Sa_,Sb_,Sc_,i64_w,i32_w]
              rfl
             refine pure_ (i:=24) (N:=some 85) (v:=?_) (a':=?_) #[true,true,true,true,true,true,true,true,true,true,true,true,true,true,true,true,true,true,true,true,true,false,true,false,true,false,false,false,false,false,false,false,false,false,false,false,false,false,false,false,false,false,false,false,false,false,false,false,false,false,false,false,false,false,false,false,false,false,false,false,false,false,false,false,false,false,false,false,false,false,false,false,false,false,false,false,false,false,false,false,false] rfl rfl (any_of HT_.out (by kernel_rfl)) (fun _ _ _ h => h) (Or.inl ⟨by rfl,?_⟩) ?_ ?_;rotate_left
             ·intro w'
              go_simp
              with_reducible rfl
             rotate_left
             ·simp only [Act.put,Sa_,Sb_,Sc_,i64_w,i32_w]
              rfl
             refine take_ (i:=21) (N:=some 82) (v:=?_) (a':=?_) #[true,true,true,true,true,true,true,true,true,true,true,true,true,true,true,true,true,true,true,true,true,true,true,false,true,false,false,false,false,false,false,false,false,false,false,false,false,false,false,false,false,false,false,false,false,false,false,false,false,false,false,false,false,false,false,false,false,false,false,false,false,false,false,false,false,false,false,false,false,false,false,false,false,false,false,false,false,false,false,false,false] rfl rfl (take_ofW HT_.out HW_.out (by kernel_rfl)) (fun _ _ _ h => h) (Or.inl ⟨by rfl,?_⟩) hHeld ?_ ?_;rotate_left
             ·rintro w' ⟨s0,s1,s2,s3,s4,s5,s6,s7,s8,s9,s10,s11,s12,s13,s14,s15,s16,s17,s18,s19,s20,s21,s22,s23,s24,s25,s26,s27,s28,s29,s30,s31,s32,s33,s34,s35⟩
              go_simp
              with_reducible rfl
             rotate_left
             ·simp only [Act.put,Sa_,Sb_,Sc_,i64_w,i32_w]
              rfl
             refine take_ (i:=25) (N:=some 86) (v:=?_) (a':=?_) #[true,true,true,true,true,true,true,true,true,true,true,true,true,true,true,true,true,true,true,true,true,true,true,false,true,true,false,false,false,false,false,false,false,false,false,false,false,false,false,false,false,false,false,false,false,false,false,false,false,false,false,false,false,false,false,false,false,false,false,false,false,false,false,false,false,false,false,false,false,false,false,false,false,false,false,false,false,false,false,false,false] rfl rfl (take_ofW HT_.out HW_.out (by kernel_rfl)) (fun _ _ _ h => h) (Or.inl ⟨by rfl,?_⟩) hHeld ?_ ?_;rotate_left
             ·rintro w' ⟨s0,s1,s2,s3,s4,s5,s6,s7,s8,s9,s10,s11,s12,s13,s14,s15,s16,s17,s18,s19,s20,s21,s22,s23,s24,s25,s26,s27,s28,s29,s30,s31,s32,s33,s34,s35⟩
              go_simp
              with_reducible rfl
             rotate_left
             ·simp only [Act.put,Sa_,Sb_,Sc_,i64_w,i32_w]
              rfl
             refine one_ (i:=23) (N:=some 84) #[true,true,true,true,true,true,true,true,true,true,true,true,true,true,true,true,true,true,true,true,true,true,true,true,true,true,false,false,false,false,false,false,false,false,false,false,false,false,false,false,false,false,false,false,false,false,false,false,false,false,false,false,false,false,false,false,false,false,false,false,false,false,false,false,false,false,false,false,false,false,false,false,false,false,false,false,false,false,false,false,false] rfl rfl (one_of HT_.out (by kernel_rfl)) (by decide) (fun K hK => ?_);refine goes_ Tryz.func8 (by kernel_rfl) rfl #[.slice A0 l0.length c0,.int .i64 2] (by rfl) rfl rfl (by (try simp only [Sd_,Se_,Sf_]);first|done|rfl|(simp only [Sg_,Sh_];rfl)) ?_;with_reducible refine (laws_at.calls _ _ l0 2 t333 _ ?side1 ?side2 A52.out).mono ?_
             (case side1 => repeat (first|exact (Kd.C_below HR0.out HB.out)|(with_reducible refine Kd.C_alloc ?_ _)|(with_reducible refine Kd.C_drewN ?_ _)|(with_reducible refine Kd.C_drew ?_)))
             (case side2 => exact HC0.out)
             rintro e w' ⟨rfl,⟨nd,rfl⟩⟩;refine ⟨_,rfl,?_⟩;refine hK.out _ _ ⟨q_ BK322 0 rfl,q_ BK322 1 rfl,q_ BK322 2 rfl,q_ BK322 3 rfl,q_ BK322 4 rfl,q_ BK322 5 rfl,q_ BK322 6 rfl,q_ BK306 0 rfl,q_ BK306 1 rfl,q_ BK306 2 rfl,q_ BK306 3 rfl,q_ BK326 0 rfl,q_ BK326 1 rfl,q_ BK326 2 rfl,q_ BK326 3 rfl,q_ BK326 4 rfl,q_ BK326 5 rfl,q_ BK326 6 rfl,q_ BK327 0 rfl,q_ BK327 1 rfl,q_ BK327 2 rfl,q_ BK327 3 rfl,q_ BK327 4 rfl,q_ BK327 5 rfl,q_ BK327 6 rfl,q_ BK328 0 rfl,q_ BK328 1 rfl,q_ BK328 2 rfl,q_ BK328 3 rfl,q_ BK328 4 rfl,q_ BK328 5 rfl,q_ BK328 6 rfl,q_ BK321 0 rfl,q_ BK321 1 rfl,q_ BK321 2 rfl,q_ BK321 3 rfl⟩ (fun hHeld => ?_);clear hK K;refine norm_ (a':=?_) ?_ ?_;rotate_left
             ·show Act.put _ (some 84) _=_
              simp only [Act.put,Sa_,Sb_,Sc_,i64_w,i32_w]
              rfl
             refine one_ (i:=26) (N:=some 87) #[true,true,true,true,true,true,true,true,true,true,true,true,true,true,true,true,true,true,true,true,true,true,true,true,true,true,true,false,false,false,false,false,false,false,false,false,false,false,false,false,false,false,false,false,false,false,false,false,false,false,false,false,false,false,false,false,false,false,false,false,false,false,false,false,false,false,false,false,false,false,false,false,false,false,false,false,false,false,false,false,false] rfl rfl (one_of HT_.out (by kernel_rfl)) (by decide) (fun K hK => ?_);refine goes_ Tryz.func11 (by kernel_rfl) rfl #[.int .i64 t323,.agg #[.string t313,.string t314,.int .i64 t315,.int .i64 t316,.bool t317,.int .i64 t318,.int .i64 t319],.string (⟨#[98,97,110,107,46,99,111,109]⟩:ByteArray),.int .i64 t333,.int .i64 t318] (by rfl) rfl rfl (by (try simp only [Sd_,Se_,Sf_]);first|done|rfl|(simp only [Sg_,Sh_];rfl)) ?_;with_reducible refine (impl_CheckAssertion.calls (ht_:=Man.tab_on HT.out (xe_ HB)) kj8 t323 t313 t314 t315 t316 t317 t318 t319 (⟨#[98,97,110,107,46,99,111,109]⟩:ByteArray) t333 t318 t334 _ A53.out).mono ?_;rintro e w103 ⟨rfl,hb⟩;refine ⟨_,rfl,?_⟩;replace BK306:=bb_ BK306 hb;replace BK307:=bb_ BK307 hb;replace BK321:=bb_ BK321 hb;replace BK322:=bb_ BK322 hb;replace BK326:=bb_ BK326 hb;replace BK327:=bb_ BK327 hb;replace BK328:=bb_ BK328 hb;replace HB:=bs_ HB hb;(try clear hb);(try clear hb2);(try clear hk);(try clear hi);refine hK.out _ _ ⟨q_ BK322 0 rfl,q_ BK322 1 rfl,q_ BK322 2 rfl,q_ BK322 3 rfl,q_ BK322 4 rfl,q_ BK322 5 rfl,q_ BK322 6 rfl,q_ BK306 0 rfl,q_ BK306 1 rfl,q_ BK306 2 rfl,q_ BK306 3 rfl,q_ BK326 0 rfl,q_ BK326 1 rfl,q_ BK326 2 rfl,q_ BK326 3 rfl,q_ BK326 4 rfl,q_ BK326 5 rfl,q_ BK326 6 rfl,q_ BK327 0 rfl,q_ BK327 1 rfl,q_ BK327 2 rfl,q_ BK327 3 rfl,q_ BK327 4 rfl,q_ BK327 5 rfl,q_ BK327 6 rfl,q_ BK328 0 rfl,q_ BK328 1 rfl,q_ BK328 2 rfl,q_ BK328 3 rfl,q_ BK328 4 rfl,q_ BK328 5 rfl,q_ BK328 6 rfl,q_ BK321 0 rfl,q_ BK321 1 rfl,q_ BK321 2 rfl,q_ BK321 3 rfl⟩ (fun hHeld => ?_);clear hK K;refine norm_ (a':=?_) ?_ ?_;rotate_left
             ·show Act.put _ (some 87) _=_
              simp only [Act.put,Sa_,Sb_,Sc_,i64_w,i32_w]
              rfl
             refine pure_ (i:=27) (N:=some 88) (v:=?_) (a':=?_) #[true,true,true,true,true,true,true,true,true,true,true,true,true,true,true,true,true,true,true,true,true,true,true,true,true,true,true,true,false,false,false,false,false,false,false,false,false,false,false,false,false,false,false,false,false,false,false,false,false,false,false,false,false,false,false,false,false,false,false,false,false,false,false,false,false,false,false,false,false,false,false,false,false,false,false,false,false,false,false,false,false] rfl rfl (any_of HT_.out (by kernel_rfl)) (fun _ _ _ h => h) (Or.inl ⟨by rfl,?_⟩) ?_ ?_;rotate_left
             ·intro w'
              go_simp
              with_reducible rfl
             rotate_left
             ·simp only [Act.put,Sa_,Sb_,Sc_,i64_w,i32_w]
              rfl
             refine pure_ (i:=28) (N:=some 89) (v:=?_) (a':=?_) #[true,true,true,true,true,true,true,true,true,true,true,true,true,true,true,true,true,true,true,true,true,true,true,true,true,true,true,true,true,false,false,false,false,false,false,false,false,false,false,false,false,false,false,false,false,false,false,false,false,false,false,false,false,false,false,false,false,false,false,false,false,false,false,false,false,false,false,false,false,false,false,false,false,false,false,false,false,false,false,false,false] rfl rfl (any_of HT_.out (by kernel_rfl)) (fun _ _ _ h => h) (Or.inl ⟨by rfl,?_⟩) ?_ ?_;rotate_left
             ·intro w'
              go_simp
              with_reducible rfl
             rotate_left
             ·simp only [Act.put,Sa_,Sb_,Sc_,i64_w,i32_w]
              rfl
             refine pure_ (i:=29) (N:=some 90) (v:=?_) (a':=?_) #[true,true,true,true,true,true,true,true,true,true,true,true,true,true,true,true,true,true,true,true,true,true,true,true,true,true,true,true,true,true,false,false,false,false,false,false,false,false,false,false,false,false,false,false,false,false,false,false,false,false,false,false,false,false,false,false,false,false,false,false,false,false,false,false,false,false,false,false,false,false,false,false,false,false,false,false,false,false,false,false,false] rfl rfl (any_of HT_.out (by kernel_rfl)) (fun _ _ _ h => h) (Or.inl ⟨by rfl,?_⟩) ?_ ?_;rotate_left
             ·intro w'
              go_simp
              with_reducible rfl
             rotate_left
             ·simp only [Act.put,Sa_,Sb_,Sc_,i64_w,i32_w]
              rfl
             refine pure_ (i:=30) (N:=some 91) (v:=?_) (a':=?_) #[true,true,true,true,true,true,true,true,true,true,true,true,true,true,true,true,true,true,true,true,true,true,true,true,true,true,true,true,true,true,true,false,false,false,false,false,false,false,false,false,false,false,false,false,false,false,false,false,false,false,false,false,false,false,false,false,false,false,false,false,false,false,false,false,false,false,false,false,false,false,false,false,false,false,false,false,false,false,false,false,false] rfl rfl (any_of HT_.out (by kernel_rfl)) (fun _ _ _ h => h) (Or.inl ⟨by rfl,?_⟩) ?_ ?_;rotate_left
             ·intro w'
              go_simp
              with_reducible rfl
             rotate_left
             ·simp only [Act.put,Sa_,Sb_,Sc_,i64_w,i32_w]
              rfl
             refine pure_ (i:=32) (N:=some 93) (v:=?_) (a':=?_) #[true,true,true,true,true,true,true,true,true,true,true,true,true,true,true,true,true,true,true,true,true,true,true,true,true,true,true,true,true,true,true,false,true,false,false,false,false,false,false,false,false,false,false,false,false,false,false,false,false,false,false,false,false,false,false,false,false,false,false,false,false,false,false,false,false,false,false,false,false,false,false,false,false,false,false,false,false,false,false,false,false] rfl rfl (any_of HT_.out (by kernel_rfl)) (fun _ _ _ h => h) (Or.inl ⟨by rfl,?_⟩) ?_ ?_;rotate_left
             ·intro w'
              go_simp
              with_reducible rfl
             rotate_left
             ·simp only [Act.put,Sa_,Sb_,Sc_,i64_w,i32_w]
              rfl
             refine pure_ (i:=34) (N:=some 95) (v:=?_) (a':=?_) #[true,true,true,true,true,true,true,true,true,true,true,true,true,true,true,true,true,true,true,true,true,true,true,true,true,true,true,true,true,true,true,false,true,false,true,false,false,false,false,false,false,false,false,false,false,false,false,false,false,false,false,false,false,false,false,false,false,false,false,false,false,false,false,false,false,false,false,false,false,false,false,false,false,false,false,false,false,false,false,false,false] rfl rfl (any_of HT_.out (by kernel_rfl)) (fun _ _ _ h => h) (Or.inl ⟨by rfl,?_⟩) ?_ ?_;rotate_left
             ·intro w'
              go_simp
              with_reducible rfl
             rotate_left
             ·simp only [Act.put,Sa_,Sb_,Sc_,i64_w,i32_w]
              rfl
             refine take_ (i:=31) (N:=some 92) (v:=?_) (a':=?_) #[true,true,true,true,true,true,true,true,true,true,true,true,true,true,true,true,true,true,true,true,true,true,true,true,true,true,true,true,true,true,true,true,true,false,true,false,false,false,false,false,false,false,false,false,false,false,false,false,false,false,false,false,false,false,false,false,false,false,false,false,false,false,false,false,false,false,false,false,false,false,false,false,false,false,false,false,false,false,false,false,false] rfl rfl (take_ofW HT_.out HW_.out (by kernel_rfl)) (fun _ _ _ h => h) (Or.inl ⟨by rfl,?_⟩) hHeld ?_ ?_;rotate_left
             ·rintro w' ⟨s0,s1,s2,s3,s4,s5,s6,s7,s8,s9,s10,s11,s12,s13,s14,s15,s16,s17,s18,s19,s20,s21,s22,s23,s24,s25,s26,s27,s28,s29,s30,s31,s32,s33,s34,s35⟩
              go_simp
              with_reducible rfl
             rotate_left
             ·simp only [Act.put,Sa_,Sb_,Sc_,i64_w,i32_w]
              rfl
             refine take_ (i:=35) (N:=some 96) (v:=?_) (a':=?_) #[true,true,true,true,true,true,true,true,true,true,true,true,true,true,true,true,true,true,true,true,true,true,true,true,true,true,true,true,true,true,true,true,true,false,true,true,false,false,false,false,false,false,false,false,false,false,false,false,false,false,false,false,false,false,false,false,false,false,false,false,false,false,false,false,false,false,false,false,false,false,false,false,false,false,false,false,false,false,false,false,false] rfl rfl (take_ofW HT_.out HW_.out (by kernel_rfl)) (fun _ _ _ h => h) (Or.inl ⟨by rfl,?_⟩) hHeld ?_ ?_;rotate_left
             ·rintro w' ⟨s0,s1,s2,s3,s4,s5,s6,s7,s8,s9,s10,s11,s12,s13,s14,s15,s16,s17,s18,s19,s20,s21,s22,s23,s24,s25,s26,s27,s28,s29,s30,s31,s32,s33,s34,s35⟩
              go_simp
              with_reducible rfl
             rotate_left
             ·simp only [Act.put,Sa_,Sb_,Sc_,i64_w,i32_w]
              rfl
             refine one_ (i:=33) (N:=some 94) #[true,true,true,true,true,true,true,true,true,true,true,true,true,true,true,true,true,true,true,true,true,true,true,true,true,true,true,true,true,true,true,true,true,true,true,true,false,false,false,false,false,false,false,false,false,false,false,false,false,false,false,false,false,false,false,false,false,false,false,false,false,false,false,false,false,false,false,false,false,false,false,false,false,false,false,false,false,false,false,false,false] rfl rfl (one_of HT_.out (by kernel_rfl)) (by decide) (fun K hK => ?_);refine goes_ Tryz.func8 (by kernel_rfl) rfl #[.slice A0 l0.length c0,.int .i64 2] (by rfl) rfl rfl (by (try simp only [Sd_,Se_,Sf_]);first|done|rfl|(simp only [Sg_,Sh_];rfl)) ?_;with_reducible refine (laws_at.calls _ _ l0 2 t335 _ ?side1 ?side2 A55.out).mono ?_
             (case side1 => repeat (first|exact (Kd.C_below HR0.out HB.out)|(with_reducible refine Kd.C_alloc ?_ _)|(with_reducible refine Kd.C_drewN ?_ _)|(with_reducible refine Kd.C_drew ?_)))
             (case side2 => exact HC0.out)
             rintro e w' ⟨rfl,⟨nd,rfl⟩⟩;refine ⟨_,rfl,?_⟩;refine hK.out _ _ ⟨q_ BK322 0 rfl,q_ BK322 1 rfl,q_ BK322 2 rfl,q_ BK322 3 rfl,q_ BK322 4 rfl,q_ BK322 5 rfl,q_ BK322 6 rfl,q_ BK306 0 rfl,q_ BK306 1 rfl,q_ BK306 2 rfl,q_ BK306 3 rfl,q_ BK326 0 rfl,q_ BK326 1 rfl,q_ BK326 2 rfl,q_ BK326 3 rfl,q_ BK326 4 rfl,q_ BK326 5 rfl,q_ BK326 6 rfl,q_ BK327 0 rfl,q_ BK327 1 rfl,q_ BK327 2 rfl,q_ BK327 3 rfl,q_ BK327 4 rfl,q_ BK327 5 rfl,q_ BK327 6 rfl,q_ BK328 0 rfl,q_ BK328 1 rfl,q_ BK328 2 rfl,q_ BK328 3 rfl,q_ BK328 4 rfl,q_ BK328 5 rfl,q_ BK328 6 rfl,q_ BK321 0 rfl,q_ BK321 1 rfl,q_ BK321 2 rfl,q_ BK321 3 rfl⟩ (fun hHeld => ?_);clear hK K;refine norm_ (a':=?_) ?_ ?_;rotate_left
             ·show Act.put _ (some 94) _=_
              simp only [Act.put,Sa_,Sb_,Sc_,i64_w,i32_w]
              rfl
             refine one_ (i:=36) (N:=some 97) #[true,true,true,true,true,true,true,true,true,true,true,true,true,true,true,true,true,true,true,true,true,true,true,true,true,true,true,true,true,true,true,true,true,true,true,true,true,false,false,false,false,false,false,false,false,false,false,false,false,false,false,false,false,false,false,false,false,false,false,false,false,false,false,false,false,false,false,false,false,false,false,false,false,false,false,false,false,false,false,false,false] rfl rfl (one_of HT_.out (by kernel_rfl)) (by decide) (fun K hK => ?_);refine goes_ Tryz.func11 (by kernel_rfl) rfl #[.int .i64 t323,.agg #[.string t313,.string t314,.int .i64 t315,.int .i64 t316,.bool false,.int .i64 t318,.int .i64 t319],.string (⟨#[98,97,110,107,46,99,111,109]⟩:ByteArray),.int .i64 t335,.int .i64 t305] (by rfl) rfl rfl (by (try simp only [Sd_,Se_,Sf_]);first|done|rfl|(simp only [Sg_,Sh_];rfl)) ?_;with_reducible refine (impl_CheckAssertion.calls (ht_:=Man.tab_on HT.out (xe_ HB)) kj8 t323 t313 t314 t315 t316 false t318 t319 (⟨#[98,97,110,107,46,99,111,109]⟩:ByteArray) t335 t305 t336 _ A56.out).mono ?_;rintro e w104 ⟨rfl,hb⟩;refine ⟨_,rfl,?_⟩;replace BK306:=bb_ BK306 hb;replace BK307:=bb_ BK307 hb;replace BK321:=bb_ BK321 hb;replace BK322:=bb_ BK322 hb;replace BK326:=bb_ BK326 hb;replace BK327:=bb_ BK327 hb;replace BK328:=bb_ BK328 hb;replace HB:=bs_ HB hb;(try clear hb);(try clear hb2);(try clear hk);(try clear hi);refine hK.out _ _ ⟨q_ BK322 0 rfl,q_ BK322 1 rfl,q_ BK322 2 rfl,q_ BK322 3 rfl,q_ BK322 4 rfl,q_ BK322 5 rfl,q_ BK322 6 rfl,q_ BK306 0 rfl,q_ BK306 1 rfl,q_ BK306 2 rfl,q_ BK306 3 rfl,q_ BK326 0 rfl,q_ BK326 1 rfl,q_ BK326 2 rfl,q_ BK326 3 rfl,q_ BK326 4 rfl,q_ BK326 5 rfl,q_ BK326 6 rfl,q_ BK327 0 rfl,q_ BK327 1 rfl,q_ BK327 2 rfl,q_ BK327 3 rfl,q_ BK327 4 rfl,q_ BK327 5 rfl,q_ BK327 6 rfl,q_ BK328 0 rfl,q_ BK328 1 rfl,q_ BK328 2 rfl,q_ BK328 3 rfl,q_ BK328 4 rfl,q_ BK328 5 rfl,q_ BK328 6 rfl,q_ BK321 0 rfl,q_ BK321 1 rfl,q_ BK321 2 rfl,q_ BK321 3 rfl⟩ (fun hHeld => ?_);clear hK K;refine norm_ (a':=?_) ?_ ?_;rotate_left
             ·show Act.put _ (some 97) _=_
              simp only [Act.put,Sa_,Sb_,Sc_,i64_w,i32_w]
              rfl
             refine pure_ (i:=37) (N:=some 98) (v:=?_) (a':=?_) #[true,true,true,true,true,true,true,true,true,true,true,true,true,true,true,true,true,true,true,true,true,true,true,true,true,true,true,true,true,true,true,true,true,true,true,true,true,true,false,false,false,false,false,false,false,false,false,false,false,false,false,false,false,false,false,false,false,false,false,false,false,false,false,false,false,false,false,false,false,false,false,false,false,false,false,false,false,false,false,false,false] rfl rfl (any_of HT_.out (by kernel_rfl)) (fun _ _ _ h => h) (Or.inl ⟨by rfl,?_⟩) ?_ ?_;rotate_left
             ·intro w'
              go_simp
              with_reducible rfl
             rotate_left
             ·simp only [Act.put,Sa_,Sb_,Sc_,i64_w,i32_w]
              rfl
             refine pure_ (i:=38) (N:=some 99) (v:=?_) (a':=?_) #[true,true,true,true,true,true,true,true,true,true,true,true,true,true,true,true,true,true,true,true,true,true,true,true,true,true,true,true,true,true,true,true,true,true,true,true,true,true,true,false,false,false,false,false,false,false,false,false,false,false,false,false,false,false,false,false,false,false,false,false,false,false,false,false,false,false,false,false,false,false,false,false,false,false,false,false,false,false,false,false,false] rfl rfl (any_of HT_.out (by kernel_rfl)) (fun _ _ _ h => h) (Or.inl ⟨by rfl,?_⟩) ?_ ?_;rotate_left
             ·intro w'
              go_simp
              with_reducible rfl
             rotate_left
             ·simp only [Act.put,Sa_,Sb_,Sc_,i64_w,i32_w]
              rfl
             refine pure_ (i:=39) (N:=some 100) (v:=?_) (a':=?_) #[true,true,true,true,true,true,true,true,true,true,true,true,true,true,true,true,true,true,true,true,true,true,true,true,true,true,true,true,true,true,true,true,true,true,true,true,true,true,true,true,false,false,false,false,false,false,false,false,false,false,false,false,false,false,false,false,false,false,false,false,false,false,false,false,false,false,false,false,false,false,false,false,false,false,false,false,false,false,false,false,false] rfl rfl (any_of HT_.out (by kernel_rfl)) (fun _ _ _ h => h) (Or.inl ⟨by rfl,?_⟩) ?_ ?_;rotate_left
             ·intro w'
              go_simp
              with_reducible rfl
             rotate_left
             ·simp only [Act.put,Sa_,Sb_,Sc_,i64_w,i32_w]
              rfl
             refine pure_ (i:=40) (N:=some 101) (v:=?_) (a':=?_) #[true,true,true,true,true,true,true,true,true,true,true,true,true,true,true,true,true,true,true,true,true,true,true,true,true,true,true,true,true,true,true,true,true,true,true,true,true,true,true,true,true,false,false,false,false,false,false,false,false,false,false,false,false,false,false,false,false,false,false,false,false,false,false,false,false,false,false,false,false,false,false,false,false,false,false,false,false,false,false,false,false] rfl rfl (any_of HT_.out (by kernel_rfl)) (fun _ _ _ h => h) (Or.inl ⟨by rfl,?_⟩) ?_ ?_;rotate_left
             ·intro w'
              go_simp
              with_reducible rfl
             rotate_left
             ·simp only [Act.put,Sa_,Sb_,Sc_,i64_w,i32_w]
              rfl
             refine pure_ (i:=42) (N:=some 103) (v:=?_) (a':=?_) #[true,true,true,true,true,true,true,true,true,true,true,true,true,true,true,true,true,true,true,true,true,true,true,true,true,true,true,true,true,true,true,true,true,true,true,true,true,true,true,true,true,false,true,false,false,false,false,false,false,false,false,false,false,false,false,false,false,false,false,false,false,false,false,false,false,false,false,false,false,false,false,false,false,false,false,false,false,false,false,false,false] rfl rfl (any_of HT_.out (by kernel_rfl)) (fun _ _ _ h => h) (Or.inl ⟨by rfl,?_⟩) ?_ ?_;rotate_left
             ·intro w'
              go_simp
              with_reducible rfl
             rotate_left
             ·simp only [Act.put,Sa_,Sb_,Sc_,i64_w,i32_w]
              rfl
             refine pure_ (i:=44) (N:=some 105) (v:=?_) (a':=?_) #[true,true,true,true,true,true,true,true,true,true,true,true,true,true,true,true,true,true,true,true,true,true,true,true,true,true,true,true,true,true,true,true,true,true,true,true,true,true,true,true,true,false,true,false,true,false,false,false,false,false,false,false,false,false,false,false,false,false,false,false,false,false,false,false,false,false,false,false,false,false,false,false,false,false,false,false,false,false,false,false,false] rfl rfl (any_of HT_.out (by kernel_rfl)) (fun _ _ _ h => h) (Or.inl ⟨by rfl,?_⟩) ?_ ?_;rotate_left
             ·intro w'
              go_simp
              with_reducible rfl
             rotate_left
             ·simp only [Act.put,Sa_,Sb_,Sc_,i64_w,i32_w]
              rfl
             refine take_ (i:=41) (N:=some 102) (v:=?_) (a':=?_) #[true,true,true,true,true,true,true,true,true,true,true,true,true,true,true,true,true,true,true,true,true,true,true,true,true,true,true,true,true,true,true,true,true,true,true,true,true,true,true,true,true,true,true,false,true,false,false,false,false,false,false,false,false,false,false,false,false,false,false,false,false,false,false,false,false,false,false,false,false,false,false,false,false,false,false,false,false,false,false,false,false] rfl rfl (take_ofW HT_.out HW_.out (by kernel_rfl)) (fun _ _ _ h => h) (Or.inl ⟨by rfl,?_⟩) hHeld ?_ ?_;rotate_left
             ·rintro w' ⟨s0,s1,s2,s3,s4,s5,s6,s7,s8,s9,s10,s11,s12,s13,s14,s15,s16,s17,s18,s19,s20,s21,s22,s23,s24,s25,s26,s27,s28,s29,s30,s31,s32,s33,s34,s35⟩
              go_simp
              with_reducible rfl
             rotate_left
             ·simp only [Act.put,Sa_,Sb_,Sc_,i64_w,i32_w]
              rfl
             refine take_ (i:=45) (N:=some 106) (v:=?_) (a':=?_) #[true,true,true,true,true,true,true,true,true,true,true,true,true,true,true,true,true,true,true,true,true,true,true,true,true,true,true,true,true,true,true,true,true,true,true,true,true,true,true,true,true,true,true,false,true,true,false,false,false,false,false,false,false,false,false,false,false,false,false,false,false,false,false,false,false,false,false,false,false,false,false,false,false,false,false,false,false,false,false,false,false] rfl rfl (take_ofW HT_.out HW_.out (by kernel_rfl)) (fun _ _ _ h => h) (Or.inl ⟨by rfl,?_⟩) hHeld ?_ ?_;rotate_left
             ·rintro w' ⟨s0,s1,s2,s3,s4,s5,s6,s7,s8,s9,s10,s11,s12,s13,s14,s15,s16,s17,s18,s19,s20,s21,s22,s23,s24,s25,s26,s27,s28,s29,s30,s31,s32,s33,s34,s35⟩
              go_simp
              with_reducible rfl
             rotate_left
             ·simp only [Act.put,Sa_,Sb_,Sc_,i64_w,i32_w]
              rfl
             refine one_ (i:=43) (N:=some 104) #[true,true,true,true,true,true,true,true,true,true,true,true,true,true,true,true,true,true,true,true,true,true,true,true,true,true,true,true,true,true,true,true,true,true,true,true,true,true,true,true,true,true,true,true,true,true,false,false,false,false,false,false,false,false,false,false,false,false,false,false,false,false,false,false,false,false,false,false,false,false,false,false,false,false,false,false,false,false,false,false,false] rfl rfl (one_of HT_.out (by kernel_rfl)) (by decide) (fun K hK => ?_);refine goes_ Tryz.func8 (by kernel_rfl) rfl #[.slice A0 l0.length c0,.int .i64 2] (by rfl) rfl rfl (by (try simp only [Sd_,Se_,Sf_]);first|done|rfl|(simp only [Sg_,Sh_];rfl)) ?_;with_reducible refine (laws_at.calls _ _ l0 2 t337 _ ?side1 ?side2 A58.out).mono ?_
             (case side1 => repeat (first|exact (Kd.C_below HR0.out HB.out)|(with_reducible refine Kd.C_alloc ?_ _)|(with_reducible refine Kd.C_drewN ?_ _)|(with_reducible refine Kd.C_drew ?_)))
             (case side2 => exact HC0.out)
             rintro e w' ⟨rfl,⟨nd,rfl⟩⟩;refine ⟨_,rfl,?_⟩;refine hK.out _ _ ⟨q_ BK322 0 rfl,q_ BK322 1 rfl,q_ BK322 2 rfl,q_ BK322 3 rfl,q_ BK322 4 rfl,q_ BK322 5 rfl,q_ BK322 6 rfl,q_ BK306 0 rfl,q_ BK306 1 rfl,q_ BK306 2 rfl,q_ BK306 3 rfl,q_ BK326 0 rfl,q_ BK326 1 rfl,q_ BK326 2 rfl,q_ BK326 3 rfl,q_ BK326 4 rfl,q_ BK326 5 rfl,q_ BK326 6 rfl,q_ BK327 0 rfl,q_ BK327 1 rfl,q_ BK327 2 rfl,q_ BK327 3 rfl,q_ BK327 4 rfl,q_ BK327 5 rfl,q_ BK327 6 rfl,q_ BK328 0 rfl,q_ BK328 1 rfl,q_ BK328 2 rfl,q_ BK328 3 rfl,q_ BK328 4 rfl,q_ BK328 5 rfl,q_ BK328 6 rfl,q_ BK321 0 rfl,q_ BK321 1 rfl,q_ BK321 2 rfl,q_ BK321 3 rfl⟩ (fun hHeld => ?_);clear hK K;refine norm_ (a':=?_) ?_ ?_;rotate_left
             ·show Act.put _ (some 104) _=_
              simp only [Act.put,Sa_,Sb_,Sc_,i64_w,i32_w]
              rfl
             refine one_ (i:=46) (N:=some 107) #[true,true,true,true,true,true,true,true,true,true,true,true,true,true,true,true,true,true,true,true,true,true,true,true,true,true,true,true,true,true,true,true,true,true,true,true,true,true,true,true,true,true,true,true,true,true,true,false,false,false,false,false,false,false,false,false,false,false,false,false,false,false,false,false,false,false,false,false,false,false,false,false,false,false,false,false,false,false,false,false,false] rfl rfl (one_of HT_.out (by kernel_rfl)) (by decide) (fun K hK => ?_);refine goes_ Tryz.func11 (by kernel_rfl) rfl #[.int .i64 t323,.agg #[.string t313,.string (⟨#[104,116,116,112,115,58,47,47,98,97,110,107,46,99,111,109]⟩:ByteArray),.int .i64 t315,.int .i64 t316,.bool t317,.int .i64 t318,.int .i64 t319],.string (⟨#[98,97,110,107,46,99,111,109]⟩:ByteArray),.int .i64 t337,.int .i64 t305] (by rfl) rfl rfl (by (try simp only [Sd_,Se_,Sf_]);first|done|rfl|(simp only [Sg_,Sh_];rfl)) ?_;with_reducible refine (impl_CheckAssertion.calls (ht_:=Man.tab_on HT.out (xe_ HB)) kj8 t323 t313 (⟨#[104,116,116,112,115,58,47,47,98,97,110,107,46,99,111,109]⟩:ByteArray) t315 t316 t317 t318 t319 (⟨#[98,97,110,107,46,99,111,109]⟩:ByteArray) t337 t305 t338 _ A59.out).mono ?_;rintro e w105 ⟨rfl,hb⟩;refine ⟨_,rfl,?_⟩;replace BK306:=bb_ BK306 hb;replace BK307:=bb_ BK307 hb;replace BK321:=bb_ BK321 hb;replace BK322:=bb_ BK322 hb;replace BK326:=bb_ BK326 hb;replace BK327:=bb_ BK327 hb;replace BK328:=bb_ BK328 hb;replace HB:=bs_ HB hb;(try clear hb);(try clear hb2);(try clear hk);(try clear hi);refine hK.out _ _ ⟨q_ BK322 0 rfl,q_ BK322 1 rfl,q_ BK322 2 rfl,q_ BK322 3 rfl,q_ BK322 4 rfl,q_ BK322 5 rfl,q_ BK322 6 rfl,q_ BK306 0 rfl,q_ BK306 1 rfl,q_ BK306 2 rfl,q_ BK306 3 rfl,q_ BK326 0 rfl,q_ BK326 1 rfl,q_ BK326 2 rfl,q_ BK326 3 rfl,q_ BK326 4 rfl,q_ BK326 5 rfl,q_ BK326 6 rfl,q_ BK327 0 rfl,q_ BK327 1 rfl,q_ BK327 2 rfl,q_ BK327 3 rfl,q_ BK327 4 rfl,q_ BK327 5 rfl,q_ BK327 6 rfl,q_ BK328 0 rfl,q_ BK328 1 rfl,q_ BK328 2 rfl,q_ BK328 3 rfl,q_ BK328 4 rfl,q_ BK328 5 rfl,q_ BK328 6 rfl,q_ BK321 0 rfl,q_ BK321 1 rfl,q_ BK321 2 rfl,q_ BK321 3 rfl⟩ (fun hHeld => ?_);clear hK K;refine norm_ (a':=?_) ?_ ?_;rotate_left
             ·show Act.put _ (some 107) _=_
              simp only [Act.put,Sa_,Sb_,Sc_,i64_w,i32_w]
              rfl
             refine pure_ (i:=47) (N:=some 108) (v:=?_) (a':=?_) #[true,true,true,true,true,true,true,true,true,true,true,true,true,true,true,true,true,true,true,true,true,true,true,true,true,true,true,true,true,true,true,true,true,true,true,true,true,true,true,true,true,true,true,true,true,true,true,true,false,false,false,false,false,false,false,false,false,false,false,false,false,false,false,false,false,false,false,false,false,false,false,false,false,false,false,false,false,false,false,false,false] rfl rfl (any_of HT_.out (by kernel_rfl)) (fun _ _ _ h => h) (Or.inl ⟨by rfl,?_⟩) ?_ ?_;rotate_left
             ·intro w'
              go_simp
              with_reducible rfl
             rotate_left
             ·simp only [Act.put,Sa_,Sb_,Sc_,i64_w,i32_w]
              rfl
             refine pure_ (i:=48) (N:=some 109) (v:=?_) (a':=?_) #[true,true,true,true,true,true,true,true,true,true,true,true,true,true,true,true,true,true,true,true,true,true,true,true,true,true,true,true,true,true,true,true,true,true,true,true,true,true,true,true,true,true,true,true,true,true,true,true,true,false,false,false,false,false,false,false,false,false,false,false,false,false,false,false,false,false,false,false,false,false,false,false,false,false,false,false,false,false,false,false,false] rfl rfl (any_of HT_.out (by kernel_rfl)) (fun _ _ _ h => h) (Or.inl ⟨by rfl,?_⟩) ?_ ?_;rotate_left
             ·intro w'
              go_simp
              with_reducible rfl
             rotate_left
             ·simp only [Act.put,Sa_,Sb_,Sc_,i64_w,i32_w]
              rfl
             refine pure_ (i:=49) (N:=some 110) (v:=?_) (a':=?_) #[true,true,true,true,true,true,true,true,true,true,true,true,true,true,true,true,true,true,true,true,true,true,true,true,true,true,true,true,true,true,true,true,true,true,true,true,true,true,true,true,true,true,true,true,true,true,true,true,true,true,false,false,false,false,false,false,false,false,false,false,false,false,false,false,false,false,false,false,false,false,false,false,false,false,false,false,false,false,false,false,false] rfl rfl (any_of HT_.out (by kernel_rfl)) (fun _ _ _ h => h) (Or.inl ⟨by rfl,?_⟩) ?_ ?_;rotate_left
             ·intro w'
              go_simp
              with_reducible rfl
             rotate_left
             ·simp only [Act.put,Sa_,Sb_,Sc_,i64_w,i32_w]
              rfl
             refine pure_ (i:=50) (N:=some 111) (v:=?_) (a':=?_) #[true,true,true,true,true,true,true,true,true,true,true,true,true,true,true,true,true,true,true,true,true,true,true,true,true,true,true,true,true,true,true,true,true,true,true,true,true,true,true,true,true,true,true,true,true,true,true,true,true,true,true,false,false,false,false,false,false,false,false,false,false,false,false,false,false,false,false,false,false,false,false,false,false,false,false,false,false,false,false,false,false] rfl rfl (any_of HT_.out (by kernel_rfl)) (fun _ _ _ h => h) (Or.inl ⟨by rfl,?_⟩) ?_ ?_;rotate_left
             ·intro w'
              go_simp
              with_reducible rfl
             rotate_left
             ·simp only [Act.put,Sa_,Sb_,Sc_,i64_w,i32_w]
              rfl
             refine pure_ (i:=52) (N:=some 113) (v:=?_) (a':=?_) #[true,true,true,true,true,true,true,true,true,true,true,true,true,true,true,true,true,true,true,true,true,true,true,true,true,true,true,true,true,true,true,true,true,true,true,true,true,true,true,true,true,true,true,true,true,true,true,true,true,true,true,false,true,false,false,false,false,false,false,false,false,false,false,false,false,false,false,false,false,false,false,false,false,false,false,false,false,false,false,false,false] rfl rfl (any_of HT_.out (by kernel_rfl)) (fun _ _ _ h => h) (Or.inl ⟨by rfl,?_⟩) ?_ ?_;rotate_left
             ·intro w'
              go_simp
              with_reducible rfl
             rotate_left
             ·simp only [Act.put,Sa_,Sb_,Sc_,i64_w,i32_w]
              rfl
             refine pure_ (i:=54) (N:=some 115) (v:=?_) (a':=?_) #[true,true,true,true,true,true,true,true,true,true,true,true,true,true,true,true,true,true,true,true,true,true,true,true,true,true,true,true,true,true,true,true,true,true,true,true,true,true,true,true,true,true,true,true,true,true,true,true,true,true,true,false,true,false,true,false,false,false,false,false,false,false,false,false,false,false,false,false,false,false,false,false,false,false,false,false,false,false,false,false,false] rfl rfl (any_of HT_.out (by kernel_rfl)) (fun _ _ _ h => h) (Or.inl ⟨by rfl,?_⟩) ?_ ?_;rotate_left
             ·intro w'
              go_simp
              with_reducible rfl
             rotate_left
             ·simp only [Act.put,Sa_,Sb_,Sc_,i64_w,i32_w]
              rfl
             refine take_ (i:=51) (N:=some 112) (v:=?_) (a':=?_) #[true,true,true,true,true,true,true,true,true,true,true,true,true,true,true,true,true,true,true,true,true,true,true,true,true,true,true,true,true,true,true,true,true,true,true,true,true,true,true,true,true,true,true,true,true,true,true,true,true,true,true,true,true,false,true,false,false,false,false,false,false,false,false,false,false,false,false,false,false,false,false,false,false,false,false,false,false,false,false,false,false] rfl rfl (take_ofW HT_.out HW_.out (by kernel_rfl)) (fun _ _ _ h => h) (Or.inl ⟨by rfl,?_⟩) hHeld ?_ ?_;rotate_left
             ·rintro w' ⟨s0,s1,s2,s3,s4,s5,s6,s7,s8,s9,s10,s11,s12,s13,s14,s15,s16,s17,s18,s19,s20,s21,s22,s23,s24,s25,s26,s27,s28,s29,s30,s31,s32,s33,s34,s35⟩
              go_simp
              with_reducible rfl
             rotate_left
             ·simp only [Act.put,Sa_,Sb_,Sc_,i64_w,i32_w]
              rfl
             refine take_ (i:=55) (N:=some 116) (v:=?_) (a':=?_) #[true,true,true,true,true,true,true,true,true,true,true,true,true,true,true,true,true,true,true,true,true,true,true,true,true,true,true,true,true,true,true,true,true,true,true,true,true,true,true,true,true,true,true,true,true,true,true,true,true,true,true,true,true,false,true,true,false,false,false,false,false,false,false,false,false,false,false,false,false,false,false,false,false,false,false,false,false,false,false,false,false] rfl rfl (take_ofW HT_.out HW_.out (by kernel_rfl)) (fun _ _ _ h => h) (Or.inl ⟨by rfl,?_⟩) hHeld ?_ ?_;rotate_left
             ·rintro w' ⟨s0,s1,s2,s3,s4,s5,s6,s7,s8,s9,s10,s11,s12,s13,s14,s15,s16,s17,s18,s19,s20,s21,s22,s23,s24,s25,s26,s27,s28,s29,s30,s31,s32,s33,s34,s35⟩
              go_simp
              with_reducible rfl
             rotate_left
             ·simp only [Act.put,Sa_,Sb_,Sc_,i64_w,i32_w]
              rfl
             refine one_ (i:=53) (N:=some 114) #[true,true,true,true,true,true,true,true,true,true,true,true,true,true,true,true,true,true,true,true,true,true,true,true,true,true,true,true,true,true,true,true,true,true,true,true,true,true,true,true,true,true,true,true,true,true,true,true,true,true,true,true,true,true,true,true,false,false,false,false,false,false,false,false,false,false,false,false,false,false,false,false,false,false,false,false,false,false,false,false,false] rfl rfl (one_of HT_.out (by kernel_rfl)) (by decide) (fun K hK => ?_);refine goes_ Tryz.func8 (by kernel_rfl) rfl #[.slice A0 l0.length c0,.int .i64 2] (by rfl) rfl rfl (by (try simp only [Sd_,Se_,Sf_]);first|done|rfl|(simp only [Sg_,Sh_];rfl)) ?_;with_reducible refine (laws_at.calls _ _ l0 2 t339 _ ?side1 ?side2 A61.out).mono ?_
             (case side1 => repeat (first|exact (Kd.C_below HR0.out HB.out)|(with_reducible refine Kd.C_alloc ?_ _)|(with_reducible refine Kd.C_drewN ?_ _)|(with_reducible refine Kd.C_drew ?_)))
             (case side2 => exact HC0.out)
             rintro e w' ⟨rfl,⟨nd,rfl⟩⟩;refine ⟨_,rfl,?_⟩;refine hK.out _ _ ⟨q_ BK322 0 rfl,q_ BK322 1 rfl,q_ BK322 2 rfl,q_ BK322 3 rfl,q_ BK322 4 rfl,q_ BK322 5 rfl,q_ BK322 6 rfl,q_ BK306 0 rfl,q_ BK306 1 rfl,q_ BK306 2 rfl,q_ BK306 3 rfl,q_ BK326 0 rfl,q_ BK326 1 rfl,q_ BK326 2 rfl,q_ BK326 3 rfl,q_ BK326 4 rfl,q_ BK326 5 rfl,q_ BK326 6 rfl,q_ BK327 0 rfl,q_ BK327 1 rfl,q_ BK327 2 rfl,q_ BK327 3 rfl,q_ BK327 4 rfl,q_ BK327 5 rfl,q_ BK327 6 rfl,q_ BK328 0 rfl,q_ BK328 1 rfl,q_ BK328 2 rfl,q_ BK328 3 rfl,q_ BK328 4 rfl,q_ BK328 5 rfl,q_ BK328 6 rfl,q_ BK321 0 rfl,q_ BK321 1 rfl,q_ BK321 2 rfl,q_ BK321 3 rfl⟩ (fun hHeld => ?_);clear hK K;refine norm_ (a':=?_) ?_ ?_;rotate_left
             ·show Act.put _ (some 114) _=_
              simp only [Act.put,Sa_,Sb_,Sc_,i64_w,i32_w]
              rfl
             refine one_ (i:=56) (N:=some 117) #[true,true,true,true,true,true,true,true,true,true,true,true,true,true,true,true,true,true,true,true,true,true,true,true,true,true,true,true,true,true,true,true,true,true,true,true,true,true,true,true,true,true,true,true,true,true,true,true,true,true,true,true,true,true,true,true,true,false,false,false,false,false,false,false,false,false,false,false,false,false,false,false,false,false,false,false,false,false,false,false,false] rfl rfl (one_of HT_.out (by kernel_rfl)) (by decide) (fun K hK => ?_);refine goes_ Tryz.func11 (by kernel_rfl) rfl #[.int .i64 t323,.agg #[.string t313,.string t314,.int .i64 t315,.int .i64 t316,.bool t317,.int .i64 (wrap64 (t318 + 1)),.int .i64 t319],.string (⟨#[98,97,110,107,46,99,111,109]⟩:ByteArray),.int .i64 t339,.int .i64 t305] (by rfl) rfl rfl (by (try simp only [Sd_,Se_,Sf_]);first|done|rfl|(simp only [Sg_,Sh_];rfl)) ?_;with_reducible refine (impl_CheckAssertion.calls (ht_:=Man.tab_on HT.out (xe_ HB)) kj8 t323 t313 t314 t315 t316 t317 (wrap64 (t318 + 1)) t319 (⟨#[98,97,110,107,46,99,111,109]⟩:ByteArray) t339 t305 t340 _ A62.out).mono ?_;rintro e w106 ⟨rfl,hb⟩;refine ⟨_,rfl,?_⟩;replace BK306:=bb_ BK306 hb;replace BK307:=bb_ BK307 hb;replace BK321:=bb_ BK321 hb;replace BK322:=bb_ BK322 hb;replace BK326:=bb_ BK326 hb;replace BK327:=bb_ BK327 hb;replace BK328:=bb_ BK328 hb;replace HB:=bs_ HB hb;(try clear hb);(try clear hb2);(try clear hk);(try clear hi);refine hK.out _ _ ⟨q_ BK322 0 rfl,q_ BK322 1 rfl,q_ BK322 2 rfl,q_ BK322 3 rfl,q_ BK322 4 rfl,q_ BK322 5 rfl,q_ BK322 6 rfl,q_ BK306 0 rfl,q_ BK306 1 rfl,q_ BK306 2 rfl,q_ BK306 3 rfl,q_ BK326 0 rfl,q_ BK326 1 rfl,q_ BK326 2 rfl,q_ BK326 3 rfl,q_ BK326 4 rfl,q_ BK326 5 rfl,q_ BK326 6 rfl,q_ BK327 0 rfl,q_ BK327 1 rfl,q_ BK327 2 rfl,q_ BK327 3 rfl,q_ BK327 4 rfl,q_ BK327 5 rfl,q_ BK327 6 rfl,q_ BK328 0 rfl,q_ BK328 1 rfl,q_ BK328 2 rfl,q_ BK328 3 rfl,q_ BK328 4 rfl,q_ BK328 5 rfl,q_ BK328 6 rfl,q_ BK321 0 rfl,q_ BK321 1 rfl,q_ BK321 2 rfl,q_ BK321 3 rfl⟩ (fun hHeld => ?_);clear hK K;refine norm_ (a':=?_) ?_ ?_;rotate_left
             ·show Act.put _ (some 117) _=_
              simp only [Act.put,Sa_,Sb_,Sc_,i64_w,i32_w]
              rfl
             refine pure_ (i:=57) (N:=some 118) (v:=?_) (a':=?_) #[true,true,true,true,true,true,true,true,true,true,true,true,true,true,true,true,true,true,true,true,true,true,true,true,true,true,true,true,true,true,true,true,true,true,true,true,true,true,true,true,true,true,true,true,true,true,true,true,true,true,true,true,true,true,true,true,true,true,false,false,false,false,false,false,false,false,false,false,false,false,false,false,false,false,false,false,false,false,false,false,false] rfl rfl (any_of HT_.out (by kernel_rfl)) (fun _ _ _ h => h) (Or.inl ⟨by rfl,?_⟩) ?_ ?_;rotate_left
             ·intro w'
              go_simp
              with_reducible rfl
             rotate_left
             ·simp only [Act.put,Sa_,Sb_,Sc_,i64_w,i32_w]
              rfl
             refine pure_ (i:=58) (N:=some 119) (v:=?_) (a':=?_) #[true,true,true,true,true,true,true,true,true,true,true,true,true,true,true,true,true,true,true,true,true,true,true,true,true,true,true,true,true,true,true,true,true,true,true,true,true,true,true,true,true,true,true,true,true,true,true,true,true,true,true,true,true,true,true,true,true,true,true,false,false,false,false,false,false,false,false,false,false,false,false,false,false,false,false,false,false,false,false,false,false] rfl rfl (any_of HT_.out (by kernel_rfl)) (fun _ _ _ h => h) (Or.inl ⟨by rfl,?_⟩) ?_ ?_;rotate_left
             ·intro w'
              go_simp
              with_reducible rfl
             rotate_left
             ·simp only [Act.put,Sa_,Sb_,Sc_,i64_w,i32_w]
              rfl
             refine pure_ (i:=59) (N:=some 120) (v:=?_) (a':=?_) #[true,true,true,true,true,true,true,true,true,true,true,true,true,true,true,true,true,true,true,true,true,true,true,true,true,true,true,true,true,true,true,true,true,true,true,true,true,true,true,true,true,true,true,true,true,true,true,true,true,true,true,true,true,true,true,true,true,true,true,true,false,false,false,false,false,false,false,false,false,false,false,false,false,false,false,false,false,false,false,false,false] rfl rfl (any_of HT_.out (by kernel_rfl)) (fun _ _ _ h => h) (Or.inl ⟨by rfl,?_⟩) ?_ ?_;rotate_left
             ·intro w'
              go_simp
              with_reducible rfl
             rotate_left
             ·simp only [Act.put,Sa_,Sb_,Sc_,i64_w,i32_w]
              rfl
             refine pure_ (i:=63) (N:=some 124) (v:=?_) (a':=?_) #[true,true,true,true,true,true,true,true,true,true,true,true,true,true,true,true,true,true,true,true,true,true,true,true,true,true,true,true,true,true,true,true,true,true,true,true,true,true,true,true,true,true,true,true,true,true,true,true,true,true,true,true,true,true,true,true,true,true,true,true,false,false,false,true,false,false,false,false,false,false,false,false,false,false,false,false,false,false,false,false,false] rfl rfl (any_of HT_.out (by kernel_rfl)) (fun _ _ _ h => h) (Or.inl ⟨by rfl,?_⟩) ?_ ?_;rotate_left
             ·intro w'
              go_simp
              with_reducible rfl
             rotate_left
             ·simp only [Act.put,Sa_,Sb_,Sc_,i64_w,i32_w]
              rfl
             refine pure_ (i:=65) (N:=some 126) (v:=?_) (a':=?_) #[true,true,true,true,true,true,true,true,true,true,true,true,true,true,true,true,true,true,true,true,true,true,true,true,true,true,true,true,true,true,true,true,true,true,true,true,true,true,true,true,true,true,true,true,true,true,true,true,true,true,true,true,true,true,true,true,true,true,true,true,false,false,false,true,false,true,false,false,false,false,false,false,false,false,false,false,false,false,false,false,false] rfl rfl (any_of HT_.out (by kernel_rfl)) (fun _ _ _ h => h) (Or.inl ⟨by rfl,?_⟩) ?_ ?_;rotate_left
             ·intro w'
              go_simp
              with_reducible rfl
             rotate_left
             ·simp only [Act.put,Sa_,Sb_,Sc_,i64_w,i32_w]
              rfl
             refine take_ (i:=60) (N:=some 121) (v:=?_) (a':=?_) #[true,true,true,true,true,true,true,true,true,true,true,true,true,true,true,true,true,true,true,true,true,true,true,true,true,true,true,true,true,true,true,true,true,true,true,true,true,true,true,true,true,true,true,true,true,true,true,true,true,true,true,true,true,true,true,true,true,true,true,true,true,false,false,true,false,true,false,false,false,false,false,false,false,false,false,false,false,false,false,false,false] rfl rfl (take_ofW HT_.out HW_.out (by kernel_rfl)) (fun _ _ _ h => h) (Or.inl ⟨by rfl,?_⟩) hHeld ?_ ?_;rotate_left
             ·rintro w' ⟨s0,s1,s2,s3,s4,s5,s6,s7,s8,s9,s10,s11,s12,s13,s14,s15,s16,s17,s18,s19,s20,s21,s22,s23,s24,s25,s26,s27,s28,s29,s30,s31,s32,s33,s34,s35⟩
              go_simp
              with_reducible rfl
             rotate_left
             ·simp only [Act.put,Sa_,Sb_,Sc_,i64_w,i32_w]
              rfl
             refine take_ (i:=62) (N:=some 123) (v:=?_) (a':=?_) #[true,true,true,true,true,true,true,true,true,true,true,true,true,true,true,true,true,true,true,true,true,true,true,true,true,true,true,true,true,true,true,true,true,true,true,true,true,true,true,true,true,true,true,true,true,true,true,true,true,true,true,true,true,true,true,true,true,true,true,true,true,false,true,true,false,true,false,false,false,false,false,false,false,false,false,false,false,false,false,false,false] rfl rfl (take_ofW HT_.out HW_.out (by kernel_rfl)) (fun _ _ _ h => h) (Or.inl ⟨by rfl,?_⟩) hHeld ?_ ?_;rotate_left
             ·rintro w' ⟨s0,s1,s2,s3,s4,s5,s6,s7,s8,s9,s10,s11,s12,s13,s14,s15,s16,s17,s18,s19,s20,s21,s22,s23,s24,s25,s26,s27,s28,s29,s30,s31,s32,s33,s34,s35⟩
              go_simp
              with_reducible rfl
             rotate_left
             ·simp only [Act.put,Sa_,Sb_,Sc_,i64_w,i32_w]
              rfl
             refine take_ (i:=66) (N:=some 127) (v:=?_) (a':=?_) #[true,true,true,true,true,true,true,true,true,true,true,true,true,true,true,true,true,true,true,true,true,true,true,true,true,true,true,true,true,true,true,true,true,true,true,true,true,true,true,true,true,true,true,true,true,true,true,true,true,true,true,true,true,true,true,true,true,true,true,true,true,false,true,true,false,true,true,false,false,false,false,false,false,false,false,false,false,false,false,false,false] rfl rfl (take_ofW HT_.out HW_.out (by kernel_rfl)) (fun _ _ _ h => h) (Or.inl ⟨by rfl,?_⟩) hHeld ?_ ?_;rotate_left
             ·rintro w' ⟨s0,s1,s2,s3,s4,s5,s6,s7,s8,s9,s10,s11,s12,s13,s14,s15,s16,s17,s18,s19,s20,s21,s22,s23,s24,s25,s26,s27,s28,s29,s30,s31,s32,s33,s34,s35⟩
              go_simp
              with_reducible rfl
             rotate_left
             ·simp only [Act.put,Sa_,Sb_,Sc_,i64_w,i32_w]
              rfl
             refine one_ (i:=61) (N:=some 122) #[true,true,true,true,true,true,true,true,true,true,true,true,true,true,true,true,true,true,true,true,true,true,true,true,true,true,true,true,true,true,true,true,true,true,true,true,true,true,true,true,true,true,true,true,true,true,true,true,true,true,true,true,true,true,true,true,true,true,true,true,true,true,true,true,false,true,true,false,false,false,false,false,false,false,false,false,false,false,false,false,false] rfl rfl (one_of HT_.out (by kernel_rfl)) (by decide) (fun K hK => ?_);refine goes_ Tryz.func10 (by kernel_rfl) rfl #[.agg #[.int .i64 t309,.int .i64 t310,.int .i64 t311,.int .i64 t312],.string (⟨#[98,97,110,107,46,99,111,109]⟩:ByteArray),.int .i64 4] (by rfl) rfl rfl (by (try simp only [Sd_,Se_,Sf_]);first|done|rfl|(simp only [Sg_,Sh_];rfl)) ?_;with_reducible refine (spec_SitePublic.calls kj8 t309 t310 t311 t312 (⟨#[98,97,110,107,46,99,111,109]⟩:ByteArray) 4 t341 _ A64.out).mono ?_;rintro e w107 ⟨rfl,hb⟩;refine ⟨_,rfl,?_⟩;replace BK306:=bb_ BK306 hb;replace BK307:=bb_ BK307 hb;replace BK321:=bb_ BK321 hb;replace BK322:=bb_ BK322 hb;replace BK326:=bb_ BK326 hb;replace BK327:=bb_ BK327 hb;replace BK328:=bb_ BK328 hb;replace HB:=bs_ HB hb;(try clear hb);(try clear hb2);(try clear hk);(try clear hi);refine hK.out _ _ ⟨q_ BK322 0 rfl,q_ BK322 1 rfl,q_ BK322 2 rfl,q_ BK322 3 rfl,q_ BK322 4 rfl,q_ BK322 5 rfl,q_ BK322 6 rfl,q_ BK306 0 rfl,q_ BK306 1 rfl,q_ BK306 2 rfl,q_ BK306 3 rfl,q_ BK326 0 rfl,q_ BK326 1 rfl,q_ BK326 2 rfl,q_ BK326 3 rfl,q_ BK326 4 rfl,q_ BK326 5 rfl,q_ BK326 6 rfl,q_ BK327 0 rfl,q_ BK327 1 rfl,q_ BK327 2 rfl,q_ BK327 3 rfl,q_ BK327 4 rfl,q_ BK327 5 rfl,q_ BK327 6 rfl,q_ BK328 0 rfl,q_ BK328 1 rfl,q_ BK328 2 rfl,q_ BK328 3 rfl,q_ BK328 4 rfl,q_ BK328 5 rfl,q_ BK328 6 rfl,q_ BK321 0 rfl,q_ BK321 1 rfl,q_ BK321 2 rfl,q_ BK321 3 rfl⟩ (fun hHeld => ?_);clear hK K;refine norm_ (a':=?_) ?_ ?_;rotate_left
             ·show Act.put _ (some 122) _=_
              simp only [Act.put,Sa_,Sb_,Sc_,i64_w,i32_w]
              rfl
             refine one_ (i:=64) (N:=some 125) #[true,true,true,true,true,true,true,true,true,true,true,true,true,true,true,true,true,true,true,true,true,true,true,true,true,true,true,true,true,true,true,true,true,true,true,true,true,true,true,true,true,true,true,true,true,true,true,true,true,true,true,true,true,true,true,true,true,true,true,true,true,true,true,true,true,true,true,false,false,false,false,false,false,false,false,false,false,false,false,false,false] rfl rfl (one_of HT_.out (by kernel_rfl)) (by decide) (fun K hK => ?_);refine goes_ Tryz.func8 (by kernel_rfl) rfl #[.slice A0 l0.length c0,.int .i64 2] (by rfl) rfl rfl (by (try simp only [Sd_,Se_,Sf_]);first|done|rfl|(simp only [Sg_,Sh_];rfl)) ?_;with_reducible refine (laws_at.calls _ _ l0 2 t342 _ ?side1 ?side2 A65.out).mono ?_
             (case side1 => repeat (first|exact (Kd.C_below HR0.out HB.out)|(with_reducible refine Kd.C_alloc ?_ _)|(with_reducible refine Kd.C_drewN ?_ _)|(with_reducible refine Kd.C_drew ?_)))
             (case side2 => exact HC0.out)
             rintro e w' ⟨rfl,⟨nd,rfl⟩⟩;refine ⟨_,rfl,?_⟩;refine hK.out _ _ ⟨q_ BK322 0 rfl,q_ BK322 1 rfl,q_ BK322 2 rfl,q_ BK322 3 rfl,q_ BK322 4 rfl,q_ BK322 5 rfl,q_ BK322 6 rfl,q_ BK306 0 rfl,q_ BK306 1 rfl,q_ BK306 2 rfl,q_ BK306 3 rfl,q_ BK326 0 rfl,q_ BK326 1 rfl,q_ BK326 2 rfl,q_ BK326 3 rfl,q_ BK326 4 rfl,q_ BK326 5 rfl,q_ BK326 6 rfl,q_ BK327 0 rfl,q_ BK327 1 rfl,q_ BK327 2 rfl,q_ BK327 3 rfl,q_ BK327 4 rfl,q_ BK327 5 rfl,q_ BK327 6 rfl,q_ BK328 0 rfl,q_ BK328 1 rfl,q_ BK328 2 rfl,q_ BK328 3 rfl,q_ BK328 4 rfl,q_ BK328 5 rfl,q_ BK328 6 rfl,q_ BK321 0 rfl,q_ BK321 1 rfl,q_ BK321 2 rfl,q_ BK321 3 rfl⟩ (fun hHeld => ?_);clear hK K;refine norm_ (a':=?_) ?_ ?_;rotate_left
             ·show Act.put _ (some 125) _=_
              simp only [Act.put,Sa_,Sb_,Sc_,i64_w,i32_w]
              rfl
             refine one_ (i:=67) (N:=some 128) #[true,true,true,true,true,true,true,true,true,true,true,true,true,true,true,true,true,true,true,true,true,true,true,true,true,true,true,true,true,true,true,true,true,true,true,true,true,true,true,true,true,true,true,true,true,true,true,true,true,true,true,true,true,true,true,true,true,true,true,true,true,true,true,true,true,true,true,true,false,false,false,false,false,false,false,false,false,false,false,false,false] rfl rfl (one_of HT_.out (by kernel_rfl)) (by decide) (fun K hK => ?_);refine goes_ Tryz.func11 (by kernel_rfl) rfl #[.int .i64 t341,.agg #[.string t313,.string t314,.int .i64 t315,.int .i64 t316,.bool t317,.int .i64 t318,.int .i64 t319],.string (⟨#[98,97,110,107,46,99,111,109]⟩:ByteArray),.int .i64 t342,.int .i64 t305] (by rfl) rfl rfl (by (try simp only [Sd_,Se_,Sf_]);first|done|rfl|(simp only [Sg_,Sh_];rfl)) ?_;with_reducible refine (impl_CheckAssertion.calls (ht_:=Man.tab_on HT.out (xe_ HB)) kj8 t341 t313 t314 t315 t316 t317 t318 t319 (⟨#[98,97,110,107,46,99,111,109]⟩:ByteArray) t342 t305 t343 _ A66.out).mono ?_;rintro e w108 ⟨rfl,hb⟩;refine ⟨_,rfl,?_⟩;replace BK306:=bb_ BK306 hb;replace BK307:=bb_ BK307 hb;replace BK321:=bb_ BK321 hb;replace BK322:=bb_ BK322 hb;replace BK326:=bb_ BK326 hb;replace BK327:=bb_ BK327 hb;replace BK328:=bb_ BK328 hb;replace HB:=bs_ HB hb;(try clear hb);(try clear hb2);(try clear hk);(try clear hi);refine hK.out _ _ ⟨q_ BK322 0 rfl,q_ BK322 1 rfl,q_ BK322 2 rfl,q_ BK322 3 rfl,q_ BK322 4 rfl,q_ BK322 5 rfl,q_ BK322 6 rfl,q_ BK306 0 rfl,q_ BK306 1 rfl,q_ BK306 2 rfl,q_ BK306 3 rfl,q_ BK326 0 rfl,q_ BK326 1 rfl,q_ BK326 2 rfl,q_ BK326 3 rfl,q_ BK326 4 rfl,q_ BK326 5 rfl,q_ BK326 6 rfl,q_ BK327 0 rfl,q_ BK327 1 rfl,q_ BK327 2 rfl,q_ BK327 3 rfl,q_ BK327 4 rfl,q_ BK327 5 rfl,q_ BK327 6 rfl,q_ BK328 0 rfl,q_ BK328 1 rfl,q_ BK328 2 rfl,q_ BK328 3 rfl,q_ BK328 4 rfl,q_ BK328 5 rfl,q_ BK328 6 rfl,q_ BK321 0 rfl,q_ BK321 1 rfl,q_ BK321 2 rfl,q_ BK321 3 rfl⟩ (fun hHeld => ?_);clear hK K;refine norm_ (a':=?_) ?_ ?_;rotate_left
             ·show Act.put _ (some 128) _=_
              simp only [Act.put,Sa_,Sb_,Sc_,i64_w,i32_w]
              rfl
             refine pure_ (i:=68) (N:=some 129) (v:=?_) (a':=?_) #[true,true,true,true,true,true,true,true,true,true,true,true,true,true,true,true,true,true,true,true,true,true,true,true,true,true,true,true,true,true,true,true,true,true,true,true,true,true,true,true,true,true,true,true,true,true,true,true,true,true,true,true,true,true,true,true,true,true,true,true,true,true,true,true,true,true,true,true,true,false,false,false,false,false,false,false,false,false,false,false,false] rfl rfl (any_of HT_.out (by kernel_rfl)) (fun _ _ _ h => h) (Or.inl ⟨by rfl,?_⟩) ?_ ?_;rotate_left
             ·intro w'
              go_simp
              with_reducible rfl
             rotate_left
             ·simp only [Act.put,Sa_,Sb_,Sc_,i64_w,i32_w]
              rfl
             refine pure_ (i:=69) (N:=some 130) (v:=?_) (a':=?_) #[true,true,true,true,true,true,true,true,true,true,true,true,true,true,true,true,true,true,true,true,true,true,true,true,true,true,true,true,true,true,true,true,true,true,true,true,true,true,true,true,true,true,true,true,true,true,true,true,true,true,true,true,true,true,true,true,true,true,true,true,true,true,true,true,true,true,true,true,true,true,false,false,false,false,false,false,false,false,false,false,false] rfl rfl (any_of HT_.out (by kernel_rfl)) (fun _ _ _ h => h) (Or.inl ⟨by rfl,?_⟩) ?_ ?_;rotate_left
             ·intro w'
              go_simp
              with_reducible rfl
             rotate_left
             ·simp only [Act.put,Sa_,Sb_,Sc_,i64_w,i32_w]
              rfl
             refine pure_ (i:=70) (N:=some 131) (v:=?_) (a':=?_) #[true,true,true,true,true,true,true,true,true,true,true,true,true,true,true,true,true,true,true,true,true,true,true,true,true,true,true,true,true,true,true,true,true,true,true,true,true,true,true,true,true,true,true,true,true,true,true,true,true,true,true,true,true,true,true,true,true,true,true,true,true,true,true,true,true,true,true,true,true,true,true,false,false,false,false,false,false,false,false,false,false] rfl rfl (any_of HT_.out (by kernel_rfl)) (fun _ _ _ h => h) (Or.inl ⟨by rfl,?_⟩) ?_ ?_;rotate_left
             ·intro w'
              go_simp
              with_reducible rfl
             rotate_left
             ·simp only [Act.put,Sa_,Sb_,Sc_,i64_w,i32_w]
              rfl
             refine pure_ (i:=72) (N:=some 133) (v:=?_) (a':=?_) #[true,true,true,true,true,true,true,true,true,true,true,true,true,true,true,true,true,true,true,true,true,true,true,true,true,true,true,true,true,true,true,true,true,true,true,true,true,true,true,true,true,true,true,true,true,true,true,true,true,true,true,true,true,true,true,true,true,true,true,true,true,true,true,true,true,true,true,true,true,true,true,false,true,false,false,false,false,false,false,false,false] rfl rfl (any_of HT_.out (by kernel_rfl)) (fun _ _ _ h => h) (Or.inl ⟨by rfl,?_⟩) ?_ ?_;rotate_left
             ·intro w'
              go_simp
              with_reducible rfl
             rotate_left
             ·simp only [Act.put,Sa_,Sb_,Sc_,i64_w,i32_w]
              rfl
             refine take_ (i:=71) (N:=some 132) (v:=?_) (a':=?_) #[true,true,true,true,true,true,true,true,true,true,true,true,true,true,true,true,true,true,true,true,true,true,true,true,true,true,true,true,true,true,true,true,true,true,true,true,true,true,true,true,true,true,true,true,true,true,true,true,true,true,true,true,true,true,true,true,true,true,true,true,true,true,true,true,true,true,true,true,true,true,true,true,true,false,false,false,false,false,false,false,false] rfl rfl (take_ofW HT_.out HW_.out (by kernel_rfl)) (fun _ _ _ h => h) (Or.inl ⟨by rfl,?_⟩) hHeld ?_ ?_;rotate_left
             ·rintro w' ⟨s0,s1,s2,s3,s4,s5,s6,s7,s8,s9,s10,s11,s12,s13,s14,s15,s16,s17,s18,s19,s20,s21,s22,s23,s24,s25,s26,s27,s28,s29,s30,s31,s32,s33,s34,s35⟩
              go_simp
              with_reducible rfl
             rotate_left
             ·simp only [Act.put,Sa_,Sb_,Sc_,i64_w,i32_w]
              rfl
             refine take_ (i:=73) (N:=some 134) (v:=?_) (a':=?_) #[true,true,true,true,true,true,true,true,true,true,true,true,true,true,true,true,true,true,true,true,true,true,true,true,true,true,true,true,true,true,true,true,true,true,true,true,true,true,true,true,true,true,true,true,true,true,true,true,true,true,true,true,true,true,true,true,true,true,true,true,true,true,true,true,true,true,true,true,true,true,true,true,true,true,false,false,false,false,false,false,false] rfl rfl (take_ofW HT_.out HW_.out (by kernel_rfl)) (fun _ _ _ h => h) (Or.inl ⟨by rfl,?_⟩) hHeld ?_ ?_;rotate_left
             ·rintro w' ⟨s0,s1,s2,s3,s4,s5,s6,s7,s8,s9,s10,s11,s12,s13,s14,s15,s16,s17,s18,s19,s20,s21,s22,s23,s24,s25,s26,s27,s28,s29,s30,s31,s32,s33,s34,s35⟩
              go_simp
              with_reducible rfl
             rotate_left
             ·simp only [Act.put,Sa_,Sb_,Sc_,i64_w,i32_w]
              rfl
             refine one_ (i:=74) (N:=some 135) #[true,true,true,true,true,true,true,true,true,true,true,true,true,true,true,true,true,true,true,true,true,true,true,true,true,true,true,true,true,true,true,true,true,true,true,true,true,true,true,true,true,true,true,true,true,true,true,true,true,true,true,true,true,true,true,true,true,true,true,true,true,true,true,true,true,true,true,true,true,true,true,true,true,true,true,false,false,false,false,false,false] rfl rfl (one_of HT_.out (by kernel_rfl)) (by decide) (fun K hK => ?_);refine goes_ Tryz.func12 (by kernel_rfl) rfl #[.agg #[.string t313,.string t314,.int .i64 t315,.int .i64 t316,.bool t317,.int .i64 t318,.int .i64 t319],.int .i64 t318] (by rfl) rfl rfl (by (try simp only [Sd_,Se_,Sf_]);first|done|rfl|(simp only [Sg_,Sh_];rfl)) ?_;with_reducible refine (impl_IsClone.calls t313 t314 t315 t316 t317 t318 t319 t318 true _ A68.out).mono ?_;rintro e w109 ⟨rfl,hb⟩;refine ⟨_,rfl,?_⟩;replace BK306:=bb_ BK306 hb;replace BK307:=bb_ BK307 hb;replace BK321:=bb_ BK321 hb;replace BK322:=bb_ BK322 hb;replace BK326:=bb_ BK326 hb;replace BK327:=bb_ BK327 hb;replace BK328:=bb_ BK328 hb;replace HB:=bs_ HB hb;(try clear hb);(try clear hb2);(try clear hk);(try clear hi);refine hK.out _ _ ⟨q_ BK322 0 rfl,q_ BK322 1 rfl,q_ BK322 2 rfl,q_ BK322 3 rfl,q_ BK322 4 rfl,q_ BK322 5 rfl,q_ BK322 6 rfl,q_ BK306 0 rfl,q_ BK306 1 rfl,q_ BK306 2 rfl,q_ BK306 3 rfl,q_ BK326 0 rfl,q_ BK326 1 rfl,q_ BK326 2 rfl,q_ BK326 3 rfl,q_ BK326 4 rfl,q_ BK326 5 rfl,q_ BK326 6 rfl,q_ BK327 0 rfl,q_ BK327 1 rfl,q_ BK327 2 rfl,q_ BK327 3 rfl,q_ BK327 4 rfl,q_ BK327 5 rfl,q_ BK327 6 rfl,q_ BK328 0 rfl,q_ BK328 1 rfl,q_ BK328 2 rfl,q_ BK328 3 rfl,q_ BK328 4 rfl,q_ BK328 5 rfl,q_ BK328 6 rfl,q_ BK321 0 rfl,q_ BK321 1 rfl,q_ BK321 2 rfl,q_ BK321 3 rfl⟩ (fun hHeld => ?_);clear hK K;refine norm_ (a':=?_) ?_ ?_;rotate_left
             ·show Act.put _ (some 135) _=_
              simp only [Act.put,Sa_,Sb_,Sc_,i64_w,i32_w]
              rfl
             refine pure_ (i:=75) (N:=some 136) (v:=?_) (a':=?_) #[true,true,true,true,true,true,true,true,true,true,true,true,true,true,true,true,true,true,true,true,true,true,true,true,true,true,true,true,true,true,true,true,true,true,true,true,true,true,true,true,true,true,true,true,true,true,true,true,true,true,true,true,true,true,true,true,true,true,true,true,true,true,true,true,true,true,true,true,true,true,true,true,true,true,true,true,false,false,false,false,false] rfl rfl (any_of HT_.out (by kernel_rfl)) (fun _ _ _ h => h) (Or.inl ⟨by rfl,?_⟩) ?_ ?_;rotate_left
             ·intro w'
              go_simp
              with_reducible rfl
             rotate_left
             ·simp only [Act.put,Sa_,Sb_,Sc_,i64_w,i32_w]
              rfl
             refine pure_ (i:=76) (N:=some 137) (v:=?_) (a':=?_) #[true,true,true,true,true,true,true,true,true,true,true,true,true,true,true,true,true,true,true,true,true,true,true,true,true,true,true,true,true,true,true,true,true,true,true,true,true,true,true,true,true,true,true,true,true,true,true,true,true,true,true,true,true,true,true,true,true,true,true,true,true,true,true,true,true,true,true,true,true,true,true,true,true,true,true,true,true,false,false,false,false] rfl rfl (any_of HT_.out (by kernel_rfl)) (fun _ _ _ h => h) (Or.inl ⟨by rfl,?_⟩) ?_ ?_;rotate_left
             ·intro w'
              go_simp
              with_reducible rfl
             rotate_left
             ·simp only [Act.put,Sa_,Sb_,Sc_,i64_w,i32_w]
              rfl
             refine one_ (i:=77) (N:=some 138) #[true,true,true,true,true,true,true,true,true,true,true,true,true,true,true,true,true,true,true,true,true,true,true,true,true,true,true,true,true,true,true,true,true,true,true,true,true,true,true,true,true,true,true,true,true,true,true,true,true,true,true,true,true,true,true,true,true,true,true,true,true,true,true,true,true,true,true,true,true,true,true,true,true,true,true,true,true,true,false,false,false] rfl rfl (one_of HT_.out (by kernel_rfl)) (by decide) (fun K hK => ?_);refine goes_ Tryz.func13 (by kernel_rfl) rfl #[.int .i64 4] (by rfl) rfl rfl (by (try simp only [Sd_,Se_,Sf_]);first|done|rfl|(simp only [Sg_,Sh_];rfl)) ?_;with_reducible refine (impl_AssertionName.calls 4 t345 _ A70.out).mono ?_;rintro e w' ⟨rfl,⟨nd,rfl⟩⟩;refine ⟨_,rfl,?_⟩;refine hK.out _ _ ⟨q_ BK322 0 rfl,q_ BK322 1 rfl,q_ BK322 2 rfl,q_ BK322 3 rfl,q_ BK322 4 rfl,q_ BK322 5 rfl,q_ BK322 6 rfl,q_ BK306 0 rfl,q_ BK306 1 rfl,q_ BK306 2 rfl,q_ BK306 3 rfl,q_ BK326 0 rfl,q_ BK326 1 rfl,q_ BK326 2 rfl,q_ BK326 3 rfl,q_ BK326 4 rfl,q_ BK326 5 rfl,q_ BK326 6 rfl,q_ BK327 0 rfl,q_ BK327 1 rfl,q_ BK327 2 rfl,q_ BK327 3 rfl,q_ BK327 4 rfl,q_ BK327 5 rfl,q_ BK327 6 rfl,q_ BK328 0 rfl,q_ BK328 1 rfl,q_ BK328 2 rfl,q_ BK328 3 rfl,q_ BK328 4 rfl,q_ BK328 5 rfl,q_ BK328 6 rfl,q_ BK321 0 rfl,q_ BK321 1 rfl,q_ BK321 2 rfl,q_ BK321 3 rfl⟩ (fun hHeld => ?_);clear hK K;refine norm_ (a':=?_) ?_ ?_;rotate_left
             ·show Act.put _ (some 138) _=_
              simp only [Act.put,Sa_,Sb_,Sc_,i64_w,i32_w]
              rfl
             refine pure_ (i:=78) (N:=some 139) (v:=?_) (a':=?_) #[true,true,true,true,true,true,true,true,true,true,true,true,true,true,true,true,true,true,true,true,true,true,true,true,true,true,true,true,true,true,true,true,true,true,true,true,true,true,true,true,true,true,true,true,true,true,true,true,true,true,true,true,true,true,true,true,true,true,true,true,true,true,true,true,true,true,true,true,true,true,true,true,true,true,true,true,true,true,true,false,false] rfl rfl (any_of HT_.out (by kernel_rfl)) (fun _ _ _ h => h) (Or.inl ⟨by rfl,?_⟩) ?_ ?_;rotate_left
             ·intro w'
              go_simp
              with_reducible rfl
             rotate_left
             ·simp only [Act.put,Sa_,Sb_,Sc_,i64_w,i32_w]
              rfl
             refine pure_ (i:=79) (N:=some 140) (v:=?_) (a':=?_) #[true,true,true,true,true,true,true,true,true,true,true,true,true,true,true,true,true,true,true,true,true,true,true,true,true,true,true,true,true,true,true,true,true,true,true,true,true,true,true,true,true,true,true,true,true,true,true,true,true,true,true,true,true,true,true,true,true,true,true,true,true,true,true,true,true,true,true,true,true,true,true,true,true,true,true,true,true,true,true,true,false] rfl rfl (any_of HT_.out (by kernel_rfl)) (fun _ _ _ h => h) (Or.inl ⟨by rfl,?_⟩) ?_ ?_;rotate_left
             ·intro w'
              go_simp
              with_reducible rfl
             rotate_left
             ·simp only [Act.put,Sa_,Sb_,Sc_,i64_w,i32_w]
              rfl
             refine pure_ (i:=80) (N:=some 2) (v:=?_) (a':=?_) #[true,true,true,true,true,true,true,true,true,true,true,true,true,true,true,true,true,true,true,true,true,true,true,true,true,true,true,true,true,true,true,true,true,true,true,true,true,true,true,true,true,true,true,true,true,true,true,true,true,true,true,true,true,true,true,true,true,true,true,true,true,true,true,true,true,true,true,true,true,true,true,true,true,true,true,true,true,true,true,true,true] rfl rfl (any_of HT_.out (by kernel_rfl)) (fun _ _ _ h => h) (Or.inl ⟨by rfl,?_⟩) ?_ ?_;rotate_left
             ·intro w'
              go_simp
              with_reducible rfl
             rotate_left
             ·simp only [Act.put,Sa_,Sb_,Sc_,i64_w,i32_w]
              rfl
             refine done_ (done_of HT_.out (by kernel_rfl)) ?_
             try go_wp2
             go_ret
             exact ⟨by first|rfl|(rw [Hr_.out];rfl)|(simp [errW_none,errW_some] <;> rfl)|(simp [*,errW_none,errW_some] <;> rfl),by repeat (first|(with_reducible first|exact HB.out|apply below_alloc|apply pw_below_drewN|apply below_drew1|refine below_set ?_ GE306.out|refine below_set ?_ GE307.out|refine below_set ?_ GE321.out|refine below_set ?_ GE322.out|refine below_set ?_ GE326.out|refine below_set ?_ GE327.out|refine below_set ?_ GE328.out)|exact HB.out)⟩
            ·replace c69:=Bool.eq_false_iff.mpr c69;subst c69
             rw [if_neg (show ¬ (false=true) by decide)] at H
             exact absurd H (by simp)
           ·rw [if_neg c67] at H
            have c67b0:(t343 == 5)=false:=beq_eq_false_iff_ne.mpr c67;have c67b1:(t343 != 5)=true:=bne_iff_ne.mpr c67;exact absurd H (by simp)
          ·rw [if_neg c63] at H
           have c63b0:(t340 == 5)=false:=beq_eq_false_iff_ne.mpr c63;have c63b1:(t340 != 5)=true:=bne_iff_ne.mpr c63;exact absurd H (by simp)
         ·rw [if_neg c60] at H
          have c60b0:(t338 == 5)=false:=beq_eq_false_iff_ne.mpr c60;have c60b1:(t338 != 5)=true:=bne_iff_ne.mpr c60;exact absurd H (by simp)
        ·rw [if_neg c57] at H
         have c57b0:(t336 == 2)=false:=beq_eq_false_iff_ne.mpr c57;have c57b1:(t336 != 2)=true:=bne_iff_ne.mpr c57;exact absurd H (by simp)
       ·rw [if_neg c54] at H
        have c54b0:(t334 == 4)=false:=beq_eq_false_iff_ne.mpr c54;have c54b1:(t334 != 4)=true:=bne_iff_ne.mpr c54;exact absurd H (by simp)
      ·rw [if_neg c51] at H
       have c51b0:(t332 == 1)=false:=beq_eq_false_iff_ne.mpr c51;have c51b1:(t332 != 1)=true:=bne_iff_ne.mpr c51;exact absurd H (by simp)
     ·rw [if_neg c48] at H
      have c48b0:(t330 == 3)=false:=beq_eq_false_iff_ne.mpr c48;have c48b1:(t330 != 3)=true:=bne_iff_ne.mpr c48;exact absurd H (by simp)

/-- THE ONE PURE STATEMENT of laws_FnAssertions: yours. -/
def laws_FnAssertions.Pure:Prop:=∀ (l0:List Int),l0.length ≤ maxLen → l0.length * 1 ≤ 140737488351232 → (∀ x ∈ l0,(Lit.int .u8 x).wf=true) → ∃ k,laws_FnAssertions.f k l0=some true
theorem laws_FnAssertions.walk (P:laws_FnAssertions.Pure) (a0:Option Addr) (len0 cap0:Nat) (z0:List Int) (w:World) (ht_:Man.Tab w) (w0:(a0=none∧len0=0∧cap0=0∧z0=[]) ∨ ∃ x,a0=some x∧len0 ≤ cap0∧cap0 ≤ maxLen∧z0.length=cap0∧(∀ i,i < z0.length → w.cell? (x.add i)=some (.int .u8 (z0.getD i 0)))∧∀ n ∈ z0,(Lit.int .u8 n).wf=true) (y0:len0 * 1 ≤ 140737488351232) :
  Calls Tryz.prog 3 #[.slice a0 len0 cap0] w fun e w' => e=.returned (.bool true)∧Below w.heap.size w w':=by
 obtain ⟨l0,rfl,hr0,hm0,hw0,hc0⟩:=ReadsInt.ofRowC w0;obtain ⟨k,h⟩:=P l0 hm0 y0 hw0;refine (laws_FnAssertions.calls (ht_:=ht_) k _ _ l0 true rfl w (Kd.C_of_reads (d:=(0:Int)) (h1:=fun _ => rfl) hr0) hc0 h).mono ?_;rintro e w' ⟨rfl,hd⟩;exact ⟨rfl,hd⟩

end Go.Proofs.YtogcoedmagoogaaGreatDoor.PFnAssertions
