/- A part of the proof of a law of the layer sky. -/
import Derived.OrdersIn
import Derived.RangeFuncCalls
import Derived.RangeFuncNested
import Derived.RegionIn
import Derived.SevenTiedAt
import Derived.TacticsIn
import Derived.Test.YtjahbgldccjbfaaGreatDoorMonths0
section
namespace Go.Proofs.YtjahbgldccjbfaaGreatDoor.PSky
open Go.RowKit Go.Proofs.YtjahbgldccjbfaaGreatDoorW.PrintWords Go.Proofs.YtjahbgldccjbfaaGreatDoorW.PrintLast Go.Proofs.YtjahbgldccjbfaaGreatDoorW.PrintMore
def sunP (l:List S74):S25:=(rd_T74 l ((0:Nat):Int)).f0
def moonP (l:List S74):S25:=(rd_T74 l ((1:Nat):Int)).f0
def mNum (l:List S74):Int:=(moonP l).f0*(sunP l).f0
def mDen (l:List S74):Int:=(moonP l).f1*(sunP l).f0 - (sunP l).f1*(moonP l).f0
theorem mul_bounds {a b m n:Int} (ha:0≤a∧a≤m) (hb:0≤b∧b≤n):0≤a*b∧a*b≤m*n:=
 ⟨Int.mul_nonneg ha.1 hb.1,Int.le_trans (Int.mul_le_mul_of_nonneg_right ha.2 hb.1) (Int.mul_le_mul_of_nonneg_left hb.2 (by omega))⟩
theorem periods {l:List S74} {p q n:Int} (h:okSky l p q n=true):(1≤(sunP l).f0∧(sunP l).f0≤10000∧1≤(sunP l).f1∧(sunP l).f1≤10000)∧(1≤(moonP l).f0∧(moonP l).f0≤10000∧1≤(moonP l).f1∧(moonP l).f1≤10000)∧(1≤p∧p≤10000∧1≤q∧q≤10000):=by
 have hk:=ok_at h
 have h0:=hk.2.2.2.2 0 (by omega)
 have h1:=hk.2.2.2.2 1 (by omega)
 simp only [okBody,Bool.and_eq_true] at h0 h1
 have a:=period_of h0.1
 have b:=period_of h1.1
 have c:=period_of hk.2.2.1
 unfold sunP moonP
 exact ⟨⟨a.1,a.2.1,a.2.2.1,a.2.2.2.1⟩,⟨b.1,b.2.1,b.2.2.1,b.2.2.2.1⟩,⟨c.1,c.2.1,c.2.2.1,c.2.2.2.1⟩⟩
theorem month_bounds {l:List S74} {p q n:Int} (h:okSky l p q n=true):(0≤(moonP l).f1*(sunP l).f0∧(moonP l).f1*(sunP l).f0≤100000000)∧(0≤(sunP l).f1*(moonP l).f0∧(sunP l).f1*(moonP l).f0≤100000000)∧(1≤mNum l∧mNum l≤100000000) ∧ -100000000≤mDen l∧mDen l≤100000000:=by
 obtain ⟨s,m,-⟩:=periods h
 have h1:=mul_bounds (a:=(moonP l).f1) (b:=(sunP l).f0) (m:=10000) (n:=10000) (by omega) (by omega)
 have h2:=mul_bounds (a:=(sunP l).f1) (b:=(moonP l).f0) (m:=10000) (n:=10000) (by omega) (by omega)
 have h3:=mul_bounds (a:=(moonP l).f0) (b:=(sunP l).f0) (m:=10000) (n:=10000) (by omega) (by omega)
 have h4:0<(moonP l).f0*(sunP l).f0:=Int.mul_pos (by omega) (by omega)
 unfold mNum mDen
 refine ⟨?_,?_,?_,?_,?_⟩ <;> omega
theorem monthNum_eq {l:List S74} {p q n:Int} (h:okSky l p q n=true):monthNum l=mNum l:=by
 obtain ⟨-,-,h3,-⟩:=month_bounds h
 show wrap64 (mNum l)=mNum l
 exact wrap_id (by omega)
theorem monthDen_eq {l:List S74} {p q n:Int} (h:okSky l p q n=true):monthDen l=mDen l:=by
 obtain ⟨h1,h2,-,h4⟩:=month_bounds h
 show wrap64 (wrap64 ((moonP l).f1*(sunP l).f0) - wrap64 ((sunP l).f1*(moonP l).f0))=mDen l
 rw [wrap_id (show -9223372036854775808≤(moonP l).f1*(sunP l).f0∧(moonP l).f1*(sunP l).f0≤9223372036854775807 by omega),wrap_id (show -9223372036854775808≤(sunP l).f1*(moonP l).f0∧(sunP l).f1*(moonP l).f0≤9223372036854775807 by omega)]
 show wrap64 (mDen l)=mDen l
 exact wrap_id (by omega)
def gcdOf (a b:Int):Int:=(Nat.gcd a.toNat b.toNat:Nat)
theorem gcd_loop:∀ (b a:Nat),Ev (fun k=>sky_gcd.l0 k (a:Int) (b:Int)) ((Nat.gcd a b:Nat):Int):=by
 intro b
 induction b using Nat.strongRecOn with
 |_ b ih=>
  intro a
  refine Ev.step (fun k=>by rw [sky_gcd.l0]) ?_
  by_cases hb:b=0
  ·subst hb
   refine Ev.neg (by omega) ?_
   rw [Nat.gcd_zero_right]
   exact Ev.now _
  ·refine Ev.pos (by omega) (Ev.neg (by omega) ?_)
   rw [Int.tmod_eq_emod_of_nonneg (by omega),show ((a:Int) % (b:Int))=((a % b:Nat):Int) by omega,Nat.gcd_comm a b,Nat.gcd_rec b a,Nat.gcd_comm]
   exact ih (a % b) (Nat.mod_lt _ (by omega)) b
theorem gcd_ev {a b:Int} (ha:0≤a) (hb:0≤b):Ev (fun k=>sky_gcd.f k a b) (gcdOf a b):=by
 have:=gcd_loop b.toNat a.toNat
 rw [show ((a.toNat:Nat):Int)=a by omega,show ((b.toNat:Nat):Int)=b by omega] at this
 exact this
theorem gcd_pos {a b:Int} (ha:1≤a):1≤gcdOf a b:=by
 unfold gcdOf
 have:0<Nat.gcd a.toNat b.toNat:=Nat.gcd_pos_of_pos_left _ (by omega)
 omega
theorem tdiv_in {a g:Int} (ha:0≤a∧a≤100000000) (hg:1≤g):wrap64 (a.tdiv g)=a / g∧0≤a / g∧a / g≤100000000:=by
 have h1:0≤a / g:=Int.ediv_nonneg ha.1 (by omega)
 have h2:=(tdiv_le (a:=a) (b:=g) (by omega) (m:=100000000) (by omega) (by decide)).2
 rw [Int.tdiv_eq_ediv_of_nonneg ha.1]
 exact ⟨wrap_id (by omega),h1,h2⟩
def monthOf (l:List S74):Int × Int × Int:=if mDen l≤0 then (0,0,7) else (mNum l / gcdOf (mNum l) (mDen l),mDen l / gcdOf (mNum l) (mDen l),0)
theorem Month_ev (l:List S74) (p q n:Int):Ev (fun k=>sky_Month.f k l p q n) (if okSky l p q n=true then monthOf l else (0,0,2)):=by
 unfold sky_Month.f
 refine Ev.bind (isSky_ev l p q n) ?_
 cases h:okSky l p q n with
 |false=>exact Ev.neg (by simp) (Ev.now _)
 |true=>
  have hk:=ok_at h
  obtain ⟨-,-,h3,h4⟩:=month_bounds h
  rw [if_pos rfl,monthNum_eq h,monthDen_eq h]
  refine Ev.pos rfl (Ev.pos (by omega) ?_)
  unfold monthOf
  by_cases hd:mDen l≤0
  ·rw [if_pos hd]
   exact Ev.pos hd (Ev.now _)
  ·rw [if_neg hd]
   have hg:=gcd_pos (a:=mNum l) (b:=mDen l) (by omega)
   refine Ev.neg hd (Ev.bind (gcd_ev (by omega) (by omega)) (Ev.neg (by omega) ?_))
   rw [(tdiv_in (a:=mNum l) (by omega) hg).1,(tdiv_in (a:=mDen l) (by omega) hg).1]
   exact Ev.now _
def dNum (l:List S74) (p q m:Int):Int:=2*m*(sunP l).f0*((moonP l).f1*p+q*(moonP l).f0)
def dDen (l:List S74) (p:Int):Int:=mDen l*p
def offOf (D x:Int):Int:=mn (x % D) (D - x % D)
def driftOf (l:List S74) (p q m:Int):Int:=offOf (dDen l p) (dNum l p q m)*10800 / dDen l p
theorem off_bounds {D x:Int} (hD:0<D):0≤offOf D x∧2*offOf D x≤D∧offOf D x≤x % D∧offOf D x≤D - x % D:=by
 have h1:=Int.emod_nonneg x (show D≠0 by omega)
 have h2:=Int.emod_lt_of_pos x hD
 unfold offOf mn
 split <;> omega
theorem dNum_bounds {l:List S74} {p q n:Int} (h:okSky l p q n=true) {m:Int} (hm:0≤m∧m≤400):(0≤(moonP l).f1*p∧(moonP l).f1*p≤100000000)∧(0≤q*(moonP l).f0∧q*(moonP l).f0≤100000000)∧(0≤2*m*(sunP l).f0∧2*m*(sunP l).f0≤8000000)∧0≤dNum l p q m∧dNum l p q m≤1600000000000000:=by
 obtain ⟨s,mo,no⟩:=periods h
 have h1:=mul_bounds (a:=(moonP l).f1) (b:=p) (m:=10000) (n:=10000) (by omega) (by omega)
 have h2:=mul_bounds (a:=q) (b:=(moonP l).f0) (m:=10000) (n:=10000) (by omega) (by omega)
 have h3:=mul_bounds (a:=2*m) (b:=(sunP l).f0) (m:=800) (n:=10000) (by omega) (by omega)
 have h4:=mul_bounds (a:=2*m*(sunP l).f0) (b:=(moonP l).f1*p+q*(moonP l).f0) (m:=8000000) (n:=200000000) (by omega) (by omega)
 unfold dNum
 refine ⟨?_,?_,?_,?_,?_⟩ <;> omega
theorem dDen_bounds {l:List S74} {p q n:Int} (h:okSky l p q n=true) (hd:0<mDen l):0<dDen l p∧dDen l p≤1000000000000:=by
 obtain ⟨-,-,no⟩:=periods h
 obtain ⟨-,-,-,h4⟩:=month_bounds h
 have h5:=mul_bounds (a:=mDen l) (b:=p) (m:=100000000) (n:=10000) (by omega) (by omega)
 have h6:0<mDen l*p:=Int.mul_pos hd (by omega)
 unfold dDen
 omega
theorem drift_bounds {D x:Int} (hD:0<D):0≤offOf D x*10800 / D∧offOf D x*10800 / D≤5400:=by
 obtain ⟨h1,h2,-⟩:=off_bounds (x:=x) hD
 refine ⟨Int.ediv_nonneg (by omega) (by omega),?_⟩
 have:offOf D x*10800 / D*D≤offOf D x*10800:=Int.ediv_mul_le _ (by omega)
 rcases Int.lt_or_le 5400 (offOf D x*10800 / D) with h|h
 ·have:=Int.mul_le_mul_of_nonneg_right (show (5401:Int)≤offOf D x*10800 / D by omega) (show 0≤D by omega)
  omega
 ·exact h
theorem drift_eq {l:List S74} {p q n:Int} (h:okSky l p q n=true) (hd:0<mDen l) {m:Int} (hm:0≤m∧m≤400):sky_drift.f l p q n m=some (driftOf l p q m):=by
 have hk:=ok_at h
 obtain ⟨b1,b2,b3,b4⟩:=dNum_bounds h hm
 obtain ⟨c1,c2⟩:=dDen_bounds h hd
 have hmo:sky_month.f l p q n=some (mNum l,mDen l):=by
  rw [← monthNum_eq h,← monthDen_eq h]
  exact sky_month_some (by omega) (by rw [monthDen_eq h];omega)
 obtain ⟨o1,o2,o3,o4⟩:=off_bounds (x:=dNum l p q m) c1
 have m1:=Int.emod_nonneg (dNum l p q m) (show dDen l p≠0 by omega)
 have m2:=Int.emod_lt_of_pos (dNum l p q m) c1
 unfold sky_drift.f
 rw [hmo,Option.bind_some,if_pos (by omega),if_pos (by omega)]
 show (sky_floor.f (wrap64 (wrap64 (wrap64 (2*m)*(sunP l).f0)*wrap64 (wrap64 ((moonP l).f1*p)+wrap64 (q*(moonP l).f0)))) (wrap64 (dDen l p))).bind (fun bt=>(sky_floor.f (wrap64 (mn bt.2 (wrap64 (wrap64 (dDen l p) - bt.2))*10800)) (wrap64 (dDen l p))).bind fun b2=>some b2.1)=some (driftOf l p q m)
 rw [wrap_id (show -9223372036854775808≤2*m∧2*m≤9223372036854775807 by omega),wrap_id (show -9223372036854775808≤2*m*(sunP l).f0∧2*m*(sunP l).f0≤9223372036854775807 by omega),wrap_id (show -9223372036854775808≤(moonP l).f1*p∧(moonP l).f1*p≤9223372036854775807 by omega),wrap_id (show -9223372036854775808≤q*(moonP l).f0∧q*(moonP l).f0≤9223372036854775807 by omega),wrap_id (show -9223372036854775808≤(moonP l).f1*p+q*(moonP l).f0∧(moonP l).f1*p+q*(moonP l).f0≤9223372036854775807 by omega)]
 rw [show 2*m*(sunP l).f0*((moonP l).f1*p+q*(moonP l).f0)=dNum l p q m from rfl,wrap_id (show -9223372036854775808≤dNum l p q m∧dNum l p q m≤9223372036854775807 by omega),wrap_id (show -9223372036854775808≤dDen l p∧dDen l p≤9223372036854775807 by omega),floor_eq c1 c2 (by omega),Option.bind_some]
 simp only
 rw [wrap_id (show -9223372036854775808≤dDen l p - dNum l p q m % dDen l p∧dDen l p - dNum l p q m % dDen l p≤9223372036854775807 by omega),show mn (dNum l p q m % dDen l p) (dDen l p - dNum l p q m % dDen l p)=offOf (dDen l p) (dNum l p q m) from rfl,wrap_id (by omega),floor_eq c1 c2 (by omega),Option.bind_some]
 rfl
def cycleOf (f:Int→Int) (limit:Int):Nat→Int→Option Int
 |0,_=>none
 |m+1,n=>if f n≤limit then some n else cycleOf f limit m (n+1)
theorem cycle_eq {l:List S74} {p q n:Int} (h:okSky l p q n=true) (hd:0<mDen l) (limit:Int):∀ (m:Nat) (k:Int),0≤k→k+m≤401→cycleFrom (fun x=>sky_drift.f l p q n x) limit m k=some (cycleOf (driftOf l p q) limit m k)
 |0,k,_,_=>rfl
 |m+1,k,h0,h1=>by
  rw [cycleFrom,drift_eq h hd (by omega),Option.bind_some,cycleOf]
  split
  ·rfl
  ·exact cycle_eq h hd limit m (k+1) (by omega) (by omega)
theorem cycleOf_some {f:Int→Int} {limit:Int}:∀ {m:Nat} {k r:Int},cycleOf f limit m k=some r→k≤r∧r<k+m∧f r≤limit∧∀ j,k≤j→j<r→limit<f j
 |0,k,r,h=>by cases h
 |m+1,k,r,h=>by
  rw [cycleOf] at h
  split at h
  ·rename_i hc
   obtain rfl:=Option.some.inj h
   exact ⟨by omega,by omega,hc,fun j h1 h2=>by omega⟩
  ·rename_i hc
   obtain ⟨a,b,c,d⟩:=cycleOf_some h
   refine ⟨by omega,by omega,c,fun j h1 h2=>?_⟩
   by_cases e:j=k
   ·subst e;omega
   ·exact d j (by omega) h2
def cycOf (l:List S74) (p q limit:Int):Option Int:=cycleOf (driftOf l p q) limit 400 1
theorem Cycle_ev (l:List S74) (p q n limit:Int):Ev (fun k=>sky_Cycle.f k l p q n limit) (if okSky l p q n=true∧okLimit limit=true then (if mDen l≤0 then (0,7) else match cycOf l p q limit with|some c=>(c,0)|none=>(0,5)) else (0,2)):=by
 unfold sky_Cycle.f
 refine Ev.bind (isSky_ev l p q n) ?_
 cases h:okSky l p q n with
 |false=>
  refine Ev.neg (by simp) ?_
  rw [if_neg (by simp)]
  exact Ev.now _
 |true=>
  refine Ev.pos rfl (Ev.bind (Ev.is (isLimit_eq limit)) ?_)
  cases h2:okLimit limit with
  |false=>
   refine Ev.neg (by simp) ?_
   rw [if_neg (by simp)]
   exact Ev.now _
  |true=>
   have hk:=ok_at h
   refine Ev.pos rfl (Ev.pos (by omega) ?_)
   rw [if_pos (show true=true∧true=true from ⟨rfl,rfl⟩),monthDen_eq h]
   by_cases hd:mDen l≤0
   ·refine Ev.pos hd ?_
    rw [if_pos hd]
    exact Ev.now _
   ·refine Ev.neg hd (Ev.bind (Ev.is (cycle_eq h (by omega) limit 400 1 (by decide) (by decide))) ?_)
    rw [if_neg hd]
    unfold cycOf
    cases cycleOf (driftOf l p q) limit 400 1 with
    |none=>exact Ev.now _
    |some c=>exact Ev.now _
end Go.Proofs.YtjahbgldccjbfaaGreatDoor.PSky
end
section
namespace Go.Proofs.YtjahbgldccjbfaaGreatDoor.PSky
open Go.RowKit Go.Proofs.YtjahbgldccjbfaaGreatDoorW.PrintWords Go.Proofs.YtjahbgldccjbfaaGreatDoorW.PrintLast Go.Proofs.YtjahbgldccjbfaaGreatDoorW.PrintMore
set_option maxRecDepth 100000 in
set_option maxHeartbeats 800000 in
theorem Drift_c1.calls (A0_0:Option Addr) (c0_0:Nat) (l0_0:List S74) (a0_1 a0_2 a0_3 m r x:Int) (sb mb nb:Nat) (w:World)
  (hs:w.heap[sb]?=some (.cells #[.slice A0_0 l0_0.length c0_0,.int .i64 a0_1,.int .i64 a0_2,.int .i64 a0_3] 29 (0,0)))
  (hm:w.heap[mb]?=some (.cells #[.int .i64 m] 3 (0,0))) (hn:w.heap[nb]?=some (.cells #[.int .i64 x] 3 (0,0)))
  (hr0_0:Kd.C k74 w A0_0 l0_0.length l0_0) (hc0_0:l0_0.length≤c0_0) (h:sky_drift.f l0_0 a0_1 a0_2 a0_3 m=some r):
  Calls Tryz.prog 89 #[.pointer (some ⟨sb,0,none⟩),.pointer (some ⟨mb,0,none⟩),.pointer (some ⟨nb,0,none⟩)] w fun e w'=>e=.returned (.tuple #[])∧∃ w1,Below w.heap.size w w1∧w'=w1.setCell ⟨nb,0,none⟩ (.int .i64 r):=by
 have HR:=A0_ hr0_0;have HC:=A0_ hc0_0;have HF:=A0_ h
 have x0:=blk_cell hs 0
 have x1:=blk_cell hs 1
 have x2:=blk_cell hs 2
 have x3:=blk_cell hs 3
 have x4:=blk_cell hm 0
 simp at x0 x1 x2 x3 x4
 have HN:=A0_ hn;clear hr0_0 hc0_0 h hn hs hm
 go_enter Tryz.func89,Tryz.ntmps89
 go_wp2_with fail
 refine (sky_drift.calls A0_0 c0_0 l0_0 a0_1 a0_2 a0_3 m r _ HR.out HC.out HF.out).mono ?_
 rintro e w1 ⟨rfl,hb⟩
 have y0:=blk_cell (blk_below HN.out hb) 0
 have y1:=blk_frozen (blk_below HN.out hb) 0
 simp at y0 y1
 go_wp2_with fail
 go_end0
 exact ⟨rfl,w1,hb,rfl⟩
set_option maxRecDepth 100000 in
set_option maxHeartbeats 800000 in
theorem Drift_c1.gaveUp (A0_0:Option Addr) (c0_0:Nat) (l0_0:List S74) (a0_1 a0_2 a0_3 m:Int) (sb mb nb:Nat) (w:World)
  (hs:w.heap[sb]?=some (.cells #[.slice A0_0 l0_0.length c0_0,.int .i64 a0_1,.int .i64 a0_2,.int .i64 a0_3] 29 (0,0)))
  (hm:w.heap[mb]?=some (.cells #[.int .i64 m] 3 (0,0)))
  (hr0_0:Kd.C k74 w A0_0 l0_0.length l0_0) (hc0_0:l0_0.length≤c0_0) (h2:1<(l0_0.length:Int)) (h:monthDen l0_0≤0):
  Calls Tryz.prog 89 #[.pointer (some ⟨sb,0,none⟩),.pointer (some ⟨mb,0,none⟩),.pointer (some ⟨nb,0,none⟩)] w fun e w'=>e=.panicked [{ v:=.iface 126 (.agg #[.int .i64 7]),recovered:=false }]∧Below w.heap.size w w':=by
 have HR:=A0_ hr0_0;have HC:=A0_ hc0_0
 have x0:=blk_cell hs 0
 have x1:=blk_cell hs 1
 have x2:=blk_cell hs 2
 have x3:=blk_cell hs 3
 have x4:=blk_cell hm 0
 simp at x0 x1 x2 x3 x4
 clear hr0_0 hc0_0 hs hm
 go_enter Tryz.func89,Tryz.ntmps89
 go_wp2_with fail
 refine (sky_drift.gaveUp A0_0 c0_0 l0_0 a0_1 a0_2 a0_3 m _ HR.out HC.out h2 h).mono ?_
 rintro e w1 ⟨rfl,hb⟩
 exact ⟨rfl,rfl,hb⟩
def sky_Drift.f (k:Nat) (l:List S74) (a1 a2 a3 m:Int):Option (Int × Int):=
 (sky_isSky.f k l a1 a2 a3).bind fun b=>if b=true then (sky_areMonths.f m).bind fun b2=>if b2=true then (if 1<(l.length:Int) then (if monthDen l≤0 then some (0,7) else (sky_drift.f l a1 a2 a3 m).bind fun d=>some (d,0)) else none) else some (0,2) else some (0,2)
set_option maxRecDepth 100000 in
set_option maxHeartbeats 1600000 in
theorem sky_Drift.calls (k:Nat) (A0_0:Option Addr) (c0_0:Nat) (l0_0:List S74) (a0_1 a0_2 a0_3 a1 r1 r2:Int) (w:World)
  (hr0_0:Kd.C k74 w A0_0 l0_0.length l0_0) (hc0_0:l0_0.length≤c0_0) (h:sky_Drift.f k l0_0 a0_1 a0_2 a0_3 a1=some (r1,r2)):
  Calls Tryz.prog 33 #[.agg #[.slice A0_0 l0_0.length c0_0,.int .i64 a0_1,.int .i64 a0_2,.int .i64 a0_3],.int .i64 a1] w fun e w'=>e=.returned (.tuple #[.int .i64 r1,.int .i64 r2])∧Below w.heap.size w w':=by
 have HR:=A0_ hr0_0;have HC:=A0_ hc0_0;clear hr0_0 hc0_0
 have hmf:∀ (fn:Fn) (first cap:Array Value) (w:World),(Instr.makeFunc fn first cap).run Tryz.prog w=.ok (.func fn first cap) w:=fun _ _ _ _=>rfl
 have hcf:∀ (args:Array Value) (W:World),(callFunc 89 args).run Tryz.prog W=.ok (.enter 89 args) W:=fun _ _=>rfl
 obtain ⟨b,hb0,h1⟩:=Option.bind_eq_some_iff.mp h
 have HB0:=A0_ hb0;clear h hb0
 go_enter Tryz.func33,Tryz.ntmps33
 go_wp2_with fail
 refine (sky_isSky.calls k A0_0 c0_0 l0_0 a0_1 a0_2 a0_3 b _ ?hC HC.out HB0.out).mono ?_
 case hC=>exact Kd.C_alloc (Kd.C_alloc HR.out _) _
 rintro e w1 ⟨rfl,hb⟩
 have HS:=A0_ (blk_below (blk_alloc (blk_new w (.cells #[.slice A0_0 l0_0.length c0_0,.int .i64 a0_1,.int .i64 a0_2,.int .i64 a0_3] 29)) (.cells #[.int .i64 a1] 3)) hb)
 have HM:=A0_ (blk_below (blk_new (w.alloc (.cells #[.slice A0_0 l0_0.length c0_0,.int .i64 a0_1,.int .i64 a0_2,.int .i64 a0_3] 29)) (.cells #[.int .i64 a1] 3)) hb)
 simp only [World.size_alloc] at HM
 have HB:=A0_ (below_step (below_alloc (below_alloc (Below.refl _ _) _) _) hb)
 clear hb
 cases b with
 |false=>
  obtain ⟨rfl,rfl⟩:(0:Int)=r1∧(2:Int)=r2:=by simpa using h1
  go_wp2
  go_ret2
  exact ⟨rfl,HB.out⟩
 |true=>
 obtain ⟨b2,hb2,h2⟩:=Option.bind_eq_some_iff.mp (show ((sky_areMonths.f a1).bind _)=some (r1,r2) from by simpa using h1)
 have HB2:=A0_ hb2;clear h1 hb2
 have m0:=blk_cell HM.out 0
 simp at m0
 go_wp2_with fail
 refine (sky_areMonths.calls a1 b2 _ HB2.out).mono ?_
 rintro e w2 ⟨rfl,⟨nd,rfl⟩⟩
 clear m0
 have HS2:=A0_ (blk_drewN HS.out nd)
 have HM2:=A0_ (blk_drewN HM.out nd)
 have HBB:=A0_ (pw_below_drewN HB.out nd)
 clear HS HM HB
 generalize w1.drewN nd=w3 at HS2 HM2 HBB ⊢
 cases b2 with
 |false=>
  obtain ⟨rfl,rfl⟩:(0:Int)=r1∧(2:Int)=r2:=by simpa using h2
  go_wp2
  go_ret2
  exact ⟨rfl,HBB.out⟩
 |true=>
 have hl:1<(l0_0.length:Int):=by
  by_cases c:1<(l0_0.length:Int)
  ·exact c
  ·simp [c] at h2
 rw [if_pos rfl,if_pos hl] at h2
 go_wp2_with fail
 have hs1:=blk_alloc (blk_alloc HS2.out (.cells #[.int .i64 0] 3)) (.cells #[.int .i64 0] 30)
 have hm1:=blk_alloc (blk_alloc HM2.out (.cells #[.int .i64 0] 3)) (.cells #[.int .i64 0] 30)
 have hn1:=blk_alloc (blk_new w3 (.cells #[.int .i64 0] 3)) (.cells #[.int .i64 0] 30)
 have he1:=blk_new (w3.alloc (.cells #[.int .i64 0] 3)) (.cells #[.int .i64 0] 30)
 have hC1:=Kd.C_below HR.out (below_alloc (below_alloc HBB.out (.cells #[.int .i64 0] 3)) (.cells #[.int .i64 0] 30))
 have HB1:=A0_ (below_alloc (below_alloc HBB.out (.cells #[.int .i64 0] 3)) (.cells #[.int .i64 0] 30))
 simp only [World.size_alloc] at he1
 have hle:=HBB.out.size
 by_cases hden:monthDen l0_0≤0
 ·obtain ⟨rfl,rfl⟩:(0:Int)=r1∧(7:Int)=r2:=by simpa [hden] using h2
  refine (try_gaveUp _ _ 7 _ (fun w'=>Below w.heap.size w w') (hcf _) ((Drift_c1.gaveUp A0_0 c0_0 l0_0 a0_1 a0_2 a0_3 _ _ _ _ _ hs1 hm1 hC1 HC.out hl hden).mono ?_)).mono ?_
  ·rintro e w4 ⟨rfl,hb⟩
   simp only [World.size_alloc]
   refine ⟨trivial,?_,?_,below_step HB1.out hb⟩
   ·exact (blk_cell (blk_below he1 hb) 0).trans rfl
   ·exact blk_frozen (blk_below he1 hb) 0
  rintro e w4 ⟨rfl,w5,hb,rfl⟩
  go_wp2_with fail
  go_ret2
  refine ⟨rfl,?_⟩
  exact below_alloc (below_set hb y32_) _
 ·rw [if_neg hden] at h2
  obtain ⟨d,hd0,h3⟩:=Option.bind_eq_some_iff.mp h2
  obtain ⟨rfl,rfl⟩:d=r1∧(0:Int)=r2:=by simpa using h3
  refine (try_done _ _ _ (fun w'=>Below w.heap.size w w'∧w'.heap[w3.heap.size]?=some (.cells #[.int .i64 d] 3 (0,0))) (hcf _) ((Drift_c1.calls A0_0 c0_0 l0_0 a0_1 a0_2 a0_3 _ _ _ _ _ _ _ hs1 hm1 hn1 hC1 HC.out hd0).mono ?_)).mono ?_
  ·rintro e w4 ⟨rfl,w5,hb,rfl⟩
   simp only [World.size_alloc]
   have q:=blk_far (p:=⟨w3.heap.size,0,none⟩) (blk_below he1 hb) (by simp) (.int .i64 d)
   refine ⟨trivial,?_,?_,below_set (below_step HB1.out hb) (by omega),?_⟩
   ·exact (blk_cell q 0).trans rfl
   ·exact blk_frozen q 0
   ·exact blk_set (blk_below hn1 hb) 0 _
  rintro e w4 ⟨rfl,w5,⟨hb,hn3⟩,rfl⟩
  have hn4:=blk_far (p:=⟨w3.heap.size+1,0,none⟩) hn3 (by simp) (.int .i64 0)
  have hb4:=below_set (g:=w3.heap.size+1) (j:=0) (v:=.int .i64 0) hb (by omega)
  simp only [World.size_alloc] at hn4 hb4 ⊢
  have y0:=blk_cell hn4 0
  simp at y0
  have HB4:=A0_ hb4;clear hn3 hn4 hb hb4 hs1 hm1 hn1 he1 hC1
  go_wp2_with fail
  go_ret2
  exact ⟨rfl,HB4.out⟩
end Go.Proofs.YtjahbgldccjbfaaGreatDoor.PSky
end
section
namespace Go.Proofs.YtjahbgldccjbfaaGreatDoor.PSky
open Go.RowKit Go.Proofs.YtjahbgldccjbfaaGreatDoorW.PrintWords Go.Proofs.YtjahbgldccjbfaaGreatDoorW.PrintLast Go.Proofs.YtjahbgldccjbfaaGreatDoorW.PrintMore
attribute [local go_sem] max2_int min2_int max_two min_two max_three min_three max_four min_four
set_option linter.unusedVariables false
set_option linter.unusedSimpArgs false
mutual
def tl_SkyMonths.j0:Nat→Int→Int→Int→Int→Int→Int→Int→Int→Int→Int→Int→Int→List (S74)→Int→Int→Int→Option (Bool)
 |0,_,_,_,_,_,_,_,_,_,_,_,_,_,_,_,_=>none
 |k+1,x1,x2,x7,x8,x9,x10,x11,x12,x13,x14,x15,x17,x485000,x485001,x485002,x485003=>if x9=x17 then (if x7=x14 then (tl_SkyMonths.j1 k x1 x2 x10 x11 x12 x13 x17 (x8 != x15) x485000 x485001 x485002 x485003) else (tl_SkyMonths.j1 k x1 x2 x10 x11 x12 x13 x17 true x485000 x485001 x485002 x485003)) else (tl_SkyMonths.j1 k x1 x2 x10 x11 x12 x13 x17 true x485000 x485001 x485002 x485003)
def tl_SkyMonths.j1:Nat→Int→Int→Int→Int→Int→Int→Int→Bool→List (S74)→Int→Int→Int→Option (Bool)
 |0,_,_,_,_,_,_,_,_,_,_,_,_=>none
 |k+1,x1,x2,x10,x11,x12,x13,x17,x95,x485000,x485001,x485002,x485003=>if x95=true then (some false) else ((tr_Months.f x1).bind fun t499=>(if t499=true then (tl_SkyMonths.j2 k x1 x2 x10 x11 x12 x13 x17 x17 0 x485000 x485001 x485002 x485003) else (tl_SkyMonths.j2 k x1 x2 x10 x11 x12 x13 2 x17 0 x485000 x485001 x485002 x485003)))
def tl_SkyMonths.j2:Nat→Int→Int→Int→Int→Int→Int→Int→Int→Int→List (S74)→Int→Int→Int→Option (Bool)
 |0,_,_,_,_,_,_,_,_,_,_,_,_,_=>none
 |k+1,x1,x2,x10,x11,x12,x13,x18,x19,x20,x485000,x485001,x485002,x485003=>(tr_Limit.f x2).bind fun t500=>(if t500=true then (tl_SkyMonths.j3 k x1 x2 x10 x11 x12 x13 x18 x19 x20 x485000 x485001 x485002 x485003) else (tl_SkyMonths.j3 k x1 x2 x10 x11 x12 x13 x18 2 x20 x485000 x485001 x485002 x485003))
def tl_SkyMonths.j3:Nat→Int→Int→Int→Int→Int→Int→Int→Int→Int→List (S74)→Int→Int→Int→Option (Bool)
 |0,_,_,_,_,_,_,_,_,_,_,_,_,_=>none
 |k+1,x1,x2,x10,x11,x12,x13,x18,x19,x20,x485000,x485001,x485002,x485003=>if x19=0 then ((tr_Cycle.f k x485000 x485001 x485002 x485003 x2).bind fun t501=>(if t501<0 then (tl_SkyMonths.j4 k x1 x10 x11 x12 x13 x18 5 0 x485000 x485001 x485002 x485003) else (tl_SkyMonths.j4 k x1 x10 x11 x12 x13 x18 x19 t501 x485000 x485001 x485002 x485003))) else (tl_SkyMonths.j4 k x1 x10 x11 x12 x13 x18 x19 x20 x485000 x485001 x485002 x485003)
def tl_SkyMonths.j4:Nat→Int→Int→Int→Int→Int→Int→Int→Int→List (S74)→Int→Int→Int→Option (Bool)
 |0,_,_,_,_,_,_,_,_,_,_,_,_=>none
 |k+1,x1,x10,x11,x12,x13,x18,x19,x20,x485000,x485001,x485002,x485003=>if x18=0 then (if x11=0 then ((tr_Drift.f x485000 x485001 x485002 x485003 x1).bind fun t502=>(if x10=t502 then (if x13=x19 then (if x12=x20 then ((tl_known.f).bind fun t503=>(some t503)) else (some false)) else (some false)) else (some false))) else (some false)) else (if x11=x18 then (if x10=0 then (if x13=x19 then (if x12=x20 then ((tl_known.f).bind fun t504=>(some t504)) else (some false)) else (some false)) else (some false)) else (some false))
end
def tl_SkyMonths.f (k:Nat) (l0_0:List (S74)) (a0_1:Int) (a0_2:Int) (a0_3:Int) (a1:Int) (a2:Int):Option (Bool):=(tl_short.f k l0_0 a0_1 a0_2 a0_3).bind fun t485=>(if t485=true then ((sky_Month.f k l0_0 a0_1 a0_2 a0_3).bind fun bt487=>((sky_Drift.f k l0_0 a0_1 a0_2 a0_3 a1).bind fun bt490=>((sky_Cycle.f k l0_0 a0_1 a0_2 a0_3 a2).bind fun bt492=>((tr_Sky.f k l0_0 a0_1 a0_2 a0_3).bind fun t494=>(if t494=true then ((tr_Month.f k l0_0 a0_1 a0_2 a0_3).bind fun bt496=>(if bt496.2.2=true then (tl_SkyMonths.j0 k a1 a2 bt487.1 bt487.2.1 bt487.2.2 bt490.1 bt490.2 bt492.1 bt492.2 bt496.1 bt496.2.1 0 l0_0 a0_1 a0_2 a0_3) else (tl_SkyMonths.j0 k a1 a2 bt487.1 bt487.2.1 bt487.2.2 bt490.1 bt490.2 bt492.1 bt492.2 bt496.1 bt496.2.1 7 l0_0 a0_1 a0_2 a0_3))) else (if bt487.2.2=2 then (if bt487.1=0 then (if bt487.2.1=0 then (if bt490.2=2 then (if bt490.1=0 then (if bt492.2=2 then (if bt492.1=0 then ((tl_known.f).bind fun t495=>(some t495)) else (some false)) else (some false)) else (some false)) else (some false)) else (some false)) else (some false)) else (some false))))))) else ((tl_known.f).bind fun t486=>(some t486)))
set_option maxHeartbeats 8000000 in
set_option maxRecDepth 100000 in
theorem tl_SkyMonths.calls (k:Nat) (A0_0:Option Addr) (c0_0:Nat) (l0_0:List (S74)) (a0_1:Int) (a0_2:Int) (a0_3:Int) (a1:Int) (a2:Int) (r:Bool) (w:World) (hr0_0:Kd.C k74 w A0_0 l0_0.length l0_0) (hc0_0:l0_0.length≤c0_0) (h:tl_SkyMonths.f k l0_0 a0_1 a0_2 a0_3 a1 a2=some r) (hLD:LD w):
  Calls Tryz.prog 6 #[.agg #[.slice A0_0 l0_0.length c0_0,.int .i64 a0_1,.int .i64 a0_2,.int .i64 a0_3],.int .i64 a1,.int .i64 a2] w fun e w'=>e=.returned (.bool r)∧Below w.heap.size w w':=by
 have HLD:=A0_ hLD;clear hLD
 have hu29:=Tryz.underlying29
 have HR0_0:=A0_ hr0_0;have HC0_0:=A0_ hc0_0;clear hr0_0 hc0_0
 have HB:=A0_ (Below.refl w.heap.size w)
 have H:((tl_short.f k l0_0 a0_1 a0_2 a0_3).bind fun t485=>(if t485=true then ((sky_Month.f k l0_0 a0_1 a0_2 a0_3).bind fun bt487=>((sky_Drift.f k l0_0 a0_1 a0_2 a0_3 a1).bind fun bt490=>((sky_Cycle.f k l0_0 a0_1 a0_2 a0_3 a2).bind fun bt492=>((tr_Sky.f k l0_0 a0_1 a0_2 a0_3).bind fun t494=>(if t494=true then ((tr_Month.f k l0_0 a0_1 a0_2 a0_3).bind fun bt496=>(if bt496.2.2=true then (tl_SkyMonths.j0 k a1 a2 bt487.1 bt487.2.1 bt487.2.2 bt490.1 bt490.2 bt492.1 bt492.2 bt496.1 bt496.2.1 0 l0_0 a0_1 a0_2 a0_3) else (tl_SkyMonths.j0 k a1 a2 bt487.1 bt487.2.1 bt487.2.2 bt490.1 bt490.2 bt492.1 bt492.2 bt496.1 bt496.2.1 7 l0_0 a0_1 a0_2 a0_3))) else (if bt487.2.2=2 then (if bt487.1=0 then (if bt487.2.1=0 then (if bt490.2=2 then (if bt490.1=0 then (if bt492.2=2 then (if bt492.1=0 then ((tl_known.f).bind fun t495=>(some t495)) else (some false)) else (some false)) else (some false)) else (some false)) else (some false)) else (some false)) else (some false))))))) else ((tl_known.f).bind fun t486=>(some t486))))=some r:=h
 clear h;replace H:=Option.bind_eq_some_iff.mp H;obtain ⟨t485,A40,H⟩:=H
 replace H:(if t485=true then ((sky_Month.f k l0_0 a0_1 a0_2 a0_3).bind fun bt487=>((sky_Drift.f k l0_0 a0_1 a0_2 a0_3 a1).bind fun bt490=>((sky_Cycle.f k l0_0 a0_1 a0_2 a0_3 a2).bind fun bt492=>((tr_Sky.f k l0_0 a0_1 a0_2 a0_3).bind fun t494=>(if t494=true then ((tr_Month.f k l0_0 a0_1 a0_2 a0_3).bind fun bt496=>(if bt496.2.2=true then (tl_SkyMonths.j0 k a1 a2 bt487.1 bt487.2.1 bt487.2.2 bt490.1 bt490.2 bt492.1 bt492.2 bt496.1 bt496.2.1 0 l0_0 a0_1 a0_2 a0_3) else (tl_SkyMonths.j0 k a1 a2 bt487.1 bt487.2.1 bt487.2.2 bt490.1 bt490.2 bt492.1 bt492.2 bt496.1 bt496.2.1 7 l0_0 a0_1 a0_2 a0_3))) else (if bt487.2.2=2 then (if bt487.1=0 then (if bt487.2.1=0 then (if bt490.2=2 then (if bt490.1=0 then (if bt492.2=2 then (if bt492.1=0 then ((tl_known.f).bind fun t495=>(some t495)) else (some false)) else (some false)) else (some false)) else (some false)) else (some false)) else (some false)) else (some false))))))) else ((tl_known.f).bind fun t486=>(some t486)))=some r:=H
 have A4:=A0_ A40;clear A40
 by_cases c5:t485=true
 ·subst c5
  have H1:((sky_Month.f k l0_0 a0_1 a0_2 a0_3).bind fun bt487=>((sky_Drift.f k l0_0 a0_1 a0_2 a0_3 a1).bind fun bt490=>((sky_Cycle.f k l0_0 a0_1 a0_2 a0_3 a2).bind fun bt492=>((tr_Sky.f k l0_0 a0_1 a0_2 a0_3).bind fun t494=>(if t494=true then ((tr_Month.f k l0_0 a0_1 a0_2 a0_3).bind fun bt496=>(if bt496.2.2=true then (tl_SkyMonths.j0 k a1 a2 bt487.1 bt487.2.1 bt487.2.2 bt490.1 bt490.2 bt492.1 bt492.2 bt496.1 bt496.2.1 0 l0_0 a0_1 a0_2 a0_3) else (tl_SkyMonths.j0 k a1 a2 bt487.1 bt487.2.1 bt487.2.2 bt490.1 bt490.2 bt492.1 bt492.2 bt496.1 bt496.2.1 7 l0_0 a0_1 a0_2 a0_3))) else (if bt487.2.2=2 then (if bt487.1=0 then (if bt487.2.1=0 then (if bt490.2=2 then (if bt490.1=0 then (if bt492.2=2 then (if bt492.1=0 then ((tl_known.f).bind fun t495=>(some t495)) else (some false)) else (some false)) else (some false)) else (some false)) else (some false)) else (some false)) else (some false)))))))=some r:=by rw [if_pos rfl] at H;exact H
  clear H;have H:=H1;clear H1;replace H:=Option.bind_eq_some_iff.mp H
  obtain ⟨⟨t487,t488,t489⟩,A60,H⟩:=H
  replace H:((sky_Drift.f k l0_0 a0_1 a0_2 a0_3 a1).bind fun bt490=>((sky_Cycle.f k l0_0 a0_1 a0_2 a0_3 a2).bind fun bt492=>((tr_Sky.f k l0_0 a0_1 a0_2 a0_3).bind fun t494=>(if t494=true then ((tr_Month.f k l0_0 a0_1 a0_2 a0_3).bind fun bt496=>(if bt496.2.2=true then (tl_SkyMonths.j0 k a1 a2 t487 t488 t489 bt490.1 bt490.2 bt492.1 bt492.2 bt496.1 bt496.2.1 0 l0_0 a0_1 a0_2 a0_3) else (tl_SkyMonths.j0 k a1 a2 t487 t488 t489 bt490.1 bt490.2 bt492.1 bt492.2 bt496.1 bt496.2.1 7 l0_0 a0_1 a0_2 a0_3))) else (if t489=2 then (if t487=0 then (if t488=0 then (if bt490.2=2 then (if bt490.1=0 then (if bt492.2=2 then (if bt492.1=0 then ((tl_known.f).bind fun t495=>(some t495)) else (some false)) else (some false)) else (some false)) else (some false)) else (some false)) else (some false)) else (some false))))))=some r:=H
  have A6:=A0_ A60;clear A60;replace H:=Option.bind_eq_some_iff.mp H
  obtain ⟨⟨t490,t491⟩,A70,H⟩:=H
  replace H:((sky_Cycle.f k l0_0 a0_1 a0_2 a0_3 a2).bind fun bt492=>((tr_Sky.f k l0_0 a0_1 a0_2 a0_3).bind fun t494=>(if t494=true then ((tr_Month.f k l0_0 a0_1 a0_2 a0_3).bind fun bt496=>(if bt496.2.2=true then (tl_SkyMonths.j0 k a1 a2 t487 t488 t489 t490 t491 bt492.1 bt492.2 bt496.1 bt496.2.1 0 l0_0 a0_1 a0_2 a0_3) else (tl_SkyMonths.j0 k a1 a2 t487 t488 t489 t490 t491 bt492.1 bt492.2 bt496.1 bt496.2.1 7 l0_0 a0_1 a0_2 a0_3))) else (if t489=2 then (if t487=0 then (if t488=0 then (if t491=2 then (if t490=0 then (if bt492.2=2 then (if bt492.1=0 then ((tl_known.f).bind fun t495=>(some t495)) else (some false)) else (some false)) else (some false)) else (some false)) else (some false)) else (some false)) else (some false)))))=some r:=H
  have A7:=A0_ A70;clear A70;replace H:=Option.bind_eq_some_iff.mp H
  obtain ⟨⟨t492,t493⟩,A80,H⟩:=H
  replace H:((tr_Sky.f k l0_0 a0_1 a0_2 a0_3).bind fun t494=>(if t494=true then ((tr_Month.f k l0_0 a0_1 a0_2 a0_3).bind fun bt496=>(if bt496.2.2=true then (tl_SkyMonths.j0 k a1 a2 t487 t488 t489 t490 t491 t492 t493 bt496.1 bt496.2.1 0 l0_0 a0_1 a0_2 a0_3) else (tl_SkyMonths.j0 k a1 a2 t487 t488 t489 t490 t491 t492 t493 bt496.1 bt496.2.1 7 l0_0 a0_1 a0_2 a0_3))) else (if t489=2 then (if t487=0 then (if t488=0 then (if t491=2 then (if t490=0 then (if t493=2 then (if t492=0 then ((tl_known.f).bind fun t495=>(some t495)) else (some false)) else (some false)) else (some false)) else (some false)) else (some false)) else (some false)) else (some false))))=some r:=H
  have A8:=A0_ A80;clear A80;replace H:=Option.bind_eq_some_iff.mp H;obtain ⟨t494,A90,H⟩:=H
  replace H:(if t494=true then ((tr_Month.f k l0_0 a0_1 a0_2 a0_3).bind fun bt496=>(if bt496.2.2=true then (tl_SkyMonths.j0 k a1 a2 t487 t488 t489 t490 t491 t492 t493 bt496.1 bt496.2.1 0 l0_0 a0_1 a0_2 a0_3) else (tl_SkyMonths.j0 k a1 a2 t487 t488 t489 t490 t491 t492 t493 bt496.1 bt496.2.1 7 l0_0 a0_1 a0_2 a0_3))) else (if t489=2 then (if t487=0 then (if t488=0 then (if t491=2 then (if t490=0 then (if t493=2 then (if t492=0 then ((tl_known.f).bind fun t495=>(some t495)) else (some false)) else (some false)) else (some false)) else (some false)) else (some false)) else (some false)) else (some false)))=some r:=H
  have A9:=A0_ A90;clear A90
  by_cases c10:t494=true
  ·subst c10
   have H1:((tr_Month.f k l0_0 a0_1 a0_2 a0_3).bind fun bt496=>(if bt496.2.2=true then (tl_SkyMonths.j0 k a1 a2 t487 t488 t489 t490 t491 t492 t493 bt496.1 bt496.2.1 0 l0_0 a0_1 a0_2 a0_3) else (tl_SkyMonths.j0 k a1 a2 t487 t488 t489 t490 t491 t492 t493 bt496.1 bt496.2.1 7 l0_0 a0_1 a0_2 a0_3)))=some r:=by rw [if_pos rfl] at H;exact H
   clear H;have H:=H1;clear H1;replace H:=Option.bind_eq_some_iff.mp H
   obtain ⟨⟨t496,t497,t498⟩,A110,H⟩:=H
   replace H:(if t498=true then (tl_SkyMonths.j0 k a1 a2 t487 t488 t489 t490 t491 t492 t493 t496 t497 0 l0_0 a0_1 a0_2 a0_3) else (tl_SkyMonths.j0 k a1 a2 t487 t488 t489 t490 t491 t492 t493 t496 t497 7 l0_0 a0_1 a0_2 a0_3))=some r:=H
   have A11:=A0_ A110;clear A110;have HC12:=A0_ H;clear H
   go_enter Tryz.func6,Tryz.ntmps6
   go_upto_if 82 with (first|((with_reducible refine gate_dst (N:=3) rfl ?_);refine box_event ?hg (N:=3) ?hd (cs:=#[.slice A0_0 l0_0.length c0_0,.int .i64 a0_1,.int .i64 a0_2,.int .i64 a0_3]) (t:=29) ?hr ?_;(case hd=>rfl);(case hg=>rfl);(case hr=>first|(go_simp;done)|(go_simp;rfl));intro gb484 hg w13 hbox hb;have n0_:=A0_ (below_step y0_ hb);have n1_:=A0_ (hbox);have n2_:=A0_ ((by rw [hg];exact (below_size y0_):w.heap.size≤gb484));have n3_:=A0_ ((by rw [hg];exact (below_size y0_):w.heap.size≤gb484));clear HB;have HB:=n0_;have BK484:=n1_;have GW484:=n2_;have GE484:=n3_;clear n0_ n1_ n2_ n3_;clear hb hbox hg;obtain ⟨hcz14_0,hcz14_1,hcz14_2,hcz14_3,hfz14_0,hfz14_1,hfz14_2,hfz14_3⟩:=bq4_ BK484.out)|((with_reducible refine gate_callee (f:=17) rfl ?_);refine goesL_ (some 22) rfl rfl Tryz.func17 (by kernel_rfl) rfl #[.agg #[.slice A0_0 l0_0.length c0_0,.int .i64 a0_1,.int .i64 a0_2,.int .i64 a0_3]] rfl y1_ ?_;(with_reducible refine (tl_short.calls k _ _ l0_0 a0_1 a0_2 a0_3 true _ ?side1 ?side2 A4.out).mono ?_);(case side1=>repeat (first|exact (Kd.C_below HR0_0.out HB.out)|(with_reducible refine Kd.C_alloc ?_ _)|(with_reducible refine Kd.C_drewN ?_ _)|(with_reducible refine Kd.C_drew ?_)));(case side2=>exact HC0_0.out);rintro e w15 ⟨rfl,hb⟩;refine ⟨_,rfl,?_⟩;have n0_:=A0_ (blk_below (g:=gb484) (o:=.cells #[.slice A0_0 l0_0.length c0_0,.int .i64 a0_1,.int .i64 a0_2,.int .i64 a0_3] 29 (0,0)) (bd_ BK484.out) hb);have n1_:=A0_ (below_step (by repeat (first|(with_reducible first|exact HB.out|apply below_alloc|apply pw_below_drewN|apply below_drew1|refine below_set ?_ GE484.out)|exact HB.out)) hb);clear BK484;clear HB;have BK484:=n0_;have HB:=n1_;clear n0_ n1_;(try clear hb);(try clear hb2);(try clear hk);(try clear hi);obtain ⟨hcz16_0,hcz16_1,hcz16_2,hcz16_3,hfz16_0,hfz16_1,hfz16_2,hfz16_3⟩:=bq4_ BK484.out)|((with_reducible refine gate_callee (f:=32) rfl ?_);refine goesL_ (some 27) rfl rfl Tryz.func32 (by kernel_rfl) rfl #[.agg #[.slice A0_0 l0_0.length c0_0,.int .i64 a0_1,.int .i64 a0_2,.int .i64 a0_3]] rfl y1_ ?_;(with_reducible refine (sky_Month.calls k _ _ l0_0 a0_1 a0_2 a0_3 t487 t488 t489 _ ?side1 ?side2 A6.out).mono ?_);(case side1=>repeat (first|exact (Kd.C_below HR0_0.out HB.out)|(with_reducible refine Kd.C_alloc ?_ _)|(with_reducible refine Kd.C_drewN ?_ _)|(with_reducible refine Kd.C_drew ?_)));(case side2=>exact HC0_0.out);rintro e w17 ⟨rfl,hb⟩;refine ⟨_,rfl,?_⟩;have n0_:=A0_ (blk_below (g:=gb484) (o:=.cells #[.slice A0_0 l0_0.length c0_0,.int .i64 a0_1,.int .i64 a0_2,.int .i64 a0_3] 29 (0,0)) (bd_ BK484.out) hb);have n1_:=A0_ (below_step (by repeat (first|(with_reducible first|exact HB.out|apply below_alloc|apply pw_below_drewN|apply below_drew1|refine below_set ?_ GE484.out)|exact HB.out)) hb);clear BK484;clear HB;have BK484:=n0_;have HB:=n1_;clear n0_ n1_;(try clear hb);(try clear hb2);(try clear hk);(try clear hi);obtain ⟨hcz18_0,hcz18_1,hcz18_2,hcz18_3,hfz18_0,hfz18_1,hfz18_2,hfz18_3⟩:=bq4_ BK484.out)|((with_reducible refine gate_callee (f:=33) rfl ?_);refine goesL_ (some 34) rfl rfl Tryz.func33 (by kernel_rfl) rfl #[.agg #[.slice A0_0 l0_0.length c0_0,.int .i64 a0_1,.int .i64 a0_2,.int .i64 a0_3],.int .i64 a1] rfl y1_ ?_;(with_reducible refine (sky_Drift.calls k _ _ l0_0 a0_1 a0_2 a0_3 a1 t490 t491 _ ?side1 ?side2 A7.out).mono ?_);(case side1=>repeat (first|exact (Kd.C_below HR0_0.out HB.out)|(with_reducible refine Kd.C_alloc ?_ _)|(with_reducible refine Kd.C_drewN ?_ _)|(with_reducible refine Kd.C_drew ?_)));(case side2=>exact HC0_0.out);rintro e w19 ⟨rfl,hb⟩;refine ⟨_,rfl,?_⟩;have n0_:=A0_ (blk_below (g:=gb484) (o:=.cells #[.slice A0_0 l0_0.length c0_0,.int .i64 a0_1,.int .i64 a0_2,.int .i64 a0_3] 29 (0,0)) (bd_ BK484.out) hb);have n1_:=A0_ (below_step (by repeat (first|(with_reducible first|exact HB.out|apply below_alloc|apply pw_below_drewN|apply below_drew1|refine below_set ?_ GE484.out)|exact HB.out)) hb);clear BK484;clear HB;have BK484:=n0_;have HB:=n1_;clear n0_ n1_;(try clear hb);(try clear hb2);(try clear hk);(try clear hi);obtain ⟨hcz20_0,hcz20_1,hcz20_2,hcz20_3,hfz20_0,hfz20_1,hfz20_2,hfz20_3⟩:=bq4_ BK484.out)|((with_reducible refine gate_callee (f:=34) rfl ?_);refine goesL_ (some 40) rfl rfl Tryz.func34 (by kernel_rfl) rfl #[.agg #[.slice A0_0 l0_0.length c0_0,.int .i64 a0_1,.int .i64 a0_2,.int .i64 a0_3],.int .i64 a2] rfl y1_ ?_;(with_reducible refine (sky_Cycle.calls k _ _ l0_0 a0_1 a0_2 a0_3 a2 t492 t493 _ ?side1 ?side2 A8.out).mono ?_);(case side1=>repeat (first|exact (Kd.C_below HR0_0.out HB.out)|(with_reducible refine Kd.C_alloc ?_ _)|(with_reducible refine Kd.C_drewN ?_ _)|(with_reducible refine Kd.C_drew ?_)));(case side2=>exact HC0_0.out);rintro e w21 ⟨rfl,hb⟩;refine ⟨_,rfl,?_⟩;have n0_:=A0_ (blk_below (g:=gb484) (o:=.cells #[.slice A0_0 l0_0.length c0_0,.int .i64 a0_1,.int .i64 a0_2,.int .i64 a0_3] 29 (0,0)) (bd_ BK484.out) hb);have n1_:=A0_ (below_step (by repeat (first|(with_reducible first|exact HB.out|apply below_alloc|apply pw_below_drewN|apply below_drew1|refine below_set ?_ GE484.out)|exact HB.out)) hb);clear BK484;clear HB;have BK484:=n0_;have HB:=n1_;clear n0_ n1_;(try clear hb);(try clear hb2);(try clear hk);(try clear hi);obtain ⟨hcz22_0,hcz22_1,hcz22_2,hcz22_3,hfz22_0,hfz22_1,hfz22_2,hfz22_3⟩:=bq4_ BK484.out)|((with_reducible refine gate_callee (f:=14) rfl ?_);refine goesL_ (some 44) rfl rfl Tryz.func14 (by kernel_rfl) rfl #[.agg #[.slice A0_0 l0_0.length c0_0,.int .i64 a0_1,.int .i64 a0_2,.int .i64 a0_3]] rfl y1_ ?_;(with_reducible refine (tr_Sky.calls k _ _ l0_0 a0_1 a0_2 a0_3 true _ ?side1 ?side2 A9.out).mono ?_);(case side1=>repeat (first|exact (Kd.C_below HR0_0.out HB.out)|(with_reducible refine Kd.C_alloc ?_ _)|(with_reducible refine Kd.C_drewN ?_ _)|(with_reducible refine Kd.C_drew ?_)));(case side2=>exact HC0_0.out);rintro e w23 ⟨rfl,hb⟩;refine ⟨_,rfl,?_⟩;have n0_:=A0_ (blk_below (g:=gb484) (o:=.cells #[.slice A0_0 l0_0.length c0_0,.int .i64 a0_1,.int .i64 a0_2,.int .i64 a0_3] 29 (0,0)) (bd_ BK484.out) hb);have n1_:=A0_ (below_step (by repeat (first|(with_reducible first|exact HB.out|apply below_alloc|apply pw_below_drewN|apply below_drew1|refine below_set ?_ GE484.out)|exact HB.out)) hb);clear BK484;clear HB;have BK484:=n0_;have HB:=n1_;clear n0_ n1_;(try clear hb);(try clear hb2);(try clear hk);(try clear hi);obtain ⟨hcz24_0,hcz24_1,hcz24_2,hcz24_3,hfz24_0,hfz24_1,hfz24_2,hfz24_3⟩:=bq4_ BK484.out)|((with_reducible refine gate_callee (f:=35) rfl ?_);refine goesL_ (some 77) rfl rfl Tryz.func35 (by kernel_rfl) rfl #[.agg #[.slice A0_0 l0_0.length c0_0,.int .i64 a0_1,.int .i64 a0_2,.int .i64 a0_3]] rfl y1_ ?_;(with_reducible refine (tr_Month.calls k _ _ l0_0 a0_1 a0_2 a0_3 t496 t497 t498 _ ?side1 ?side2 A11.out).mono ?_);(case side1=>repeat (first|exact (Kd.C_below HR0_0.out HB.out)|(with_reducible refine Kd.C_alloc ?_ _)|(with_reducible refine Kd.C_drewN ?_ _)|(with_reducible refine Kd.C_drew ?_)));(case side2=>exact HC0_0.out);rintro e w25 ⟨rfl,hb⟩;refine ⟨_,rfl,?_⟩;have n0_:=A0_ (blk_below (g:=gb484) (o:=.cells #[.slice A0_0 l0_0.length c0_0,.int .i64 a0_1,.int .i64 a0_2,.int .i64 a0_3] 29 (0,0)) (bd_ BK484.out) hb);have n1_:=A0_ (below_step (by repeat (first|(with_reducible first|exact HB.out|apply below_alloc|apply pw_below_drewN|apply below_drew1|refine below_set ?_ GE484.out)|exact HB.out)) hb);clear BK484;clear HB;have BK484:=n0_;have HB:=n1_;clear n0_ n1_;(try clear hb);(try clear hb2);(try clear hk);(try clear hi)))
   (try simp only [Act.put,List.setIfInBounds_toArray,List.set_cons_zero,List.set_cons_succ])
   go_cut [17] (fun v17 wc=>∃ (kq:Nat) (x17_11:Int),v17=.int .i64 x17_11∧Aside0 (tl_SkyMonths.j0 kq a1 a2 t487 t488 t489 t490 t491 t492 t493 t496 t497 x17_11 l0_0 a0_1 a0_2 a0_3=some r)∧Aside0 (kq≤k)∧Aside0 (wc.heap[gb484]?=some (.cells #[(.slice A0_0 l0_0.length c0_0),.int .i64 a0_1,.int .i64 a0_2,.int .i64 a0_3] 29 (0,0)))∧Aside0 (Below w.heap.size w wc))
   case first=>
    have H:=HC12.out
    clear HC12
    by_cases c26:t498=true
    ·subst c26
     have H1:(tl_SkyMonths.j0 k a1 a2 t487 t488 t489 t490 t491 t492 t493 t496 t497 0 l0_0 a0_1 a0_2 a0_3)=some r:=by rw [if_pos rfl] at H;exact H
     clear H;have H:=H1;clear H1
     have H':=A0_ H
     clear H;go_wp2
     go_meet
     case rel=>exact ⟨_,(0),y4_,H',⟨by first|omega|exact Nat.le_refl _⟩,⟨by (with_reducible repeat (first|refine blk_drewN ?_ _|refine blk_drew ?_|refine blk_alloc ?_ _));exact BK484.out⟩,⟨(by repeat (first|(with_reducible first|exact HB.out|apply below_alloc|apply pw_below_drewN|apply below_drew1|refine below_set ?_ GE484.out)|exact HB.out))⟩⟩
    ·replace c26:=Bool.eq_false_iff.mpr c26;subst c26
     have H1:(tl_SkyMonths.j0 k a1 a2 t487 t488 t489 t490 t491 t492 t493 t496 t497 7 l0_0 a0_1 a0_2 a0_3)=some r:=by rw [if_neg (show ¬ (false=true) by decide)] at H;exact H
     clear H;have H:=H1;clear H1
     have H':=A0_ H
     clear H;go_wp2
     go_meet
     case rel=>exact ⟨_,(7),y4_,H',⟨by first|omega|exact Nat.le_refl _⟩,⟨by (with_reducible repeat (first|refine blk_drewN ?_ _|refine blk_drew ?_|refine blk_alloc ?_ _));exact BK484.out⟩,⟨(by repeat (first|(with_reducible first|exact HB.out|apply below_alloc|apply pw_below_drewN|apply below_drew1|refine below_set ?_ GE484.out)|exact HB.out))⟩⟩
   case rest=>
    clear HC12;(try clear c1);(try clear c2);(try clear p2);(try clear c3);(try clear c5);(try clear c6);(try clear c10);(try clear c14);(try clear c17);(try clear c26);(try clear hcz14_0);(try clear hcz14_1);(try clear hcz14_2);(try clear hcz14_3);(try clear hcz16_0);(try clear hcz16_1);(try clear hcz16_2);(try clear hcz16_3);(try clear hcz18_0);(try clear hcz18_1);(try clear hcz18_2);(try clear hcz18_3);(try clear hcz20_0);(try clear hcz20_1);(try clear hcz20_2);(try clear hcz20_3);(try clear hcz22_0);(try clear hcz22_1);(try clear hcz22_2);(try clear hcz22_3);(try clear hcz24_0);(try clear hcz24_1);(try clear hcz24_2);(try clear hcz24_3);(try clear hfz14_0);(try clear hfz14_1);(try clear hfz14_2);(try clear hfz14_3);(try clear hfz16_0);(try clear hfz16_1);(try clear hfz16_2);(try clear hfz16_3);(try clear hfz18_0);(try clear hfz18_1);(try clear hfz18_2);(try clear hfz18_3);(try clear hfz20_0);(try clear hfz20_1);(try clear hfz20_2);(try clear hfz20_3);(try clear hfz22_0);(try clear hfz22_1);(try clear hfz22_2);(try clear hfz22_3);(try clear hfz24_0);(try clear hfz24_1);(try clear hfz24_2);(try clear hfz24_3)
    obtain ⟨kq,x17_11,rfl,HA,HJ11,BK484,HB⟩:=hcut
    cases kq with
    |zero=>exact absurd HA.out (by simp [tl_SkyMonths.j0])
    |succ kj11=>
     have H:=HA.out
     clear HA
     simp only [tl_SkyMonths.j0] at H
     have HC27:=A0_ H;clear H
     go_upto_region 12 with (fail)
     go_cut [95] (fun v95 wc=>∃ (kq:Nat) (x95_26:Bool),v95=.bool x95_26∧Aside0 (tl_SkyMonths.j1 kq a1 a2 t490 t491 t492 t493 x17_11 x95_26 l0_0 a0_1 a0_2 a0_3=some r)∧Aside0 (kq≤kj11)∧Aside0 (wc.heap[gb484]?=some (.cells #[(.slice A0_0 l0_0.length c0_0),.int .i64 a0_1,.int .i64 a0_2,.int .i64 a0_3] 29 (0,0)))∧Aside0 (Below w.heap.size w wc))
     case first=>
      have H:=HC27.out
      clear HC27
      by_cases c28:t489=x17_11
      ·rw [if_pos c28] at H
       have c28b0:(t489 == x17_11)=true:=beq_iff_eq.mpr c28
       have c28b1:(t489 != x17_11)=false:=bne_eq_false_iff_eq.mpr c28
       clear c28
       (first|rw [c28b0]|(simp only [i64_w,i32_w];rw [c28b0])|skip)
       by_cases c29:t487=t496
       ·rw [if_pos c29] at H
        have c29b0:(t487 == t496)=true:=beq_iff_eq.mpr c29
        have c29b1:(t487 != t496)=false:=bne_eq_false_iff_eq.mpr c29
        clear c29
        have H':=A0_ H
        clear H;go_wp2
        go_meet
        case rel=>exact ⟨_,((t488 != t497)),y4_,H',⟨by have:=HJ11.out;first|omega|exact Nat.le_refl _⟩,⟨by (with_reducible repeat (first|refine blk_drewN ?_ _|refine blk_drew ?_|refine blk_alloc ?_ _));exact BK484.out⟩,⟨(by repeat (first|(with_reducible first|exact HB.out|apply below_alloc|apply pw_below_drewN|apply below_drew1|refine below_set ?_ GE484.out)|exact HB.out))⟩⟩
       ·rw [if_neg c29] at H
        have c29b0:(t487 == t496)=false:=beq_eq_false_iff_ne.mpr c29
        have c29b1:(t487 != t496)=true:=bne_iff_ne.mpr c29
        have H':=A0_ H
        clear H;go_wp2
        go_meet
        case rel=>exact ⟨_,(true),y4_,H',⟨by have:=HJ11.out;first|omega|exact Nat.le_refl _⟩,⟨by (with_reducible repeat (first|refine blk_drewN ?_ _|refine blk_drew ?_|refine blk_alloc ?_ _));exact BK484.out⟩,⟨(by repeat (first|(with_reducible first|exact HB.out|apply below_alloc|apply pw_below_drewN|apply below_drew1|refine below_set ?_ GE484.out)|exact HB.out))⟩⟩
      ·rw [if_neg c28] at H
       have c28b0:(t489 == x17_11)=false:=beq_eq_false_iff_ne.mpr c28
       have c28b1:(t489 != x17_11)=true:=bne_iff_ne.mpr c28
       (first|rw [c28b0]|(simp only [i64_w,i32_w];rw [c28b0])|skip)
       have H':=A0_ H
       clear H;go_wp2
       go_meet
       case rel=>exact ⟨_,(true),y4_,H',⟨by have:=HJ11.out;first|omega|exact Nat.le_refl _⟩,⟨by (with_reducible repeat (first|refine blk_drewN ?_ _|refine blk_drew ?_|refine blk_alloc ?_ _));exact BK484.out⟩,⟨(by repeat (first|(with_reducible first|exact HB.out|apply below_alloc|apply pw_below_drewN|apply below_drew1|refine below_set ?_ GE484.out)|exact HB.out))⟩⟩
     case rest=>
      clear HC27;(try clear c1);(try clear c2);(try clear p2);(try clear c3);(try clear c5);(try clear c6);(try clear c10);(try clear c14);(try clear c17);(try clear c26);(try clear c28);(try clear c28b0);(try clear c28b1);(try clear c29);(try clear c29b0);(try clear c29b1);(try clear hcz14_0);(try clear hcz14_1);(try clear hcz14_2);(try clear hcz14_3);(try clear hcz16_0);(try clear hcz16_1);(try clear hcz16_2);(try clear hcz16_3);(try clear hcz18_0);(try clear hcz18_1);(try clear hcz18_2);(try clear hcz18_3);(try clear hcz20_0);(try clear hcz20_1);(try clear hcz20_2);(try clear hcz20_3);(try clear hcz22_0);(try clear hcz22_1);(try clear hcz22_2);(try clear hcz22_3);(try clear hcz24_0);(try clear hcz24_1);(try clear hcz24_2);(try clear hcz24_3);(try clear hfz14_0);(try clear hfz14_1);(try clear hfz14_2);(try clear hfz14_3);(try clear hfz16_0);(try clear hfz16_1);(try clear hfz16_2);(try clear hfz16_3);(try clear hfz18_0);(try clear hfz18_1);(try clear hfz18_2);(try clear hfz18_3);(try clear hfz20_0);(try clear hfz20_1);(try clear hfz20_2);(try clear hfz20_3);(try clear hfz22_0);(try clear hfz22_1);(try clear hfz22_2);(try clear hfz22_3);(try clear hfz24_0);(try clear hfz24_1);(try clear hfz24_2);(try clear hfz24_3);(try clear p2)
      obtain ⟨kq,x95_26,rfl,HA,HJ26,BK484,HB⟩:=hcut
      cases kq with
      |zero=>exact absurd HA.out (by simp [tl_SkyMonths.j1])
      |succ kj26=>
       have H:=HA.out
       clear HA
       simp only [tl_SkyMonths.j1] at H
       by_cases c30:x95_26=true
       ·subst c30
        have H1:(some false)=some r:=by rw [if_pos rfl] at H;exact H
        clear H;have H:=H1;clear H1;obtain rfl:=Option.some.inj H;go_wp2;go_ret
        exact ⟨y2_,(by repeat (first|(with_reducible first|exact HB.out|apply below_alloc|apply pw_below_drewN|apply below_drew1|refine below_set ?_ GE484.out)|exact HB.out))⟩
       ·replace c30:=Bool.eq_false_iff.mpr c30;subst c30
        have H1:((tr_Months.f a1).bind fun t499=>(if t499=true then (tl_SkyMonths.j2 kj26 a1 a2 t490 t491 t492 t493 x17_11 x17_11 0 l0_0 a0_1 a0_2 a0_3) else (tl_SkyMonths.j2 kj26 a1 a2 t490 t491 t492 t493 2 x17_11 0 l0_0 a0_1 a0_2 a0_3)))=some r:=by rw [if_neg (show ¬ (false=true) by decide)] at H;exact H
        clear H;have H:=H1;clear H1;replace H:=Option.bind_eq_some_iff.mp H;obtain ⟨t499,A310,H⟩:=H
        replace H:(if t499=true then (tl_SkyMonths.j2 kj26 a1 a2 t490 t491 t492 t493 x17_11 x17_11 0 l0_0 a0_1 a0_2 a0_3) else (tl_SkyMonths.j2 kj26 a1 a2 t490 t491 t492 t493 2 x17_11 0 l0_0 a0_1 a0_2 a0_3))=some r:=H
        have A31:=A0_ A310;clear A310;have HC32:=A0_ H;clear H
        go_upto_if 100 with (first|((with_reducible refine gate_callee (f:=36) rfl ?_);refine goesL_ (some 99) rfl rfl Tryz.func36 (by kernel_rfl) rfl #[.int .i64 a1] rfl y1_ ?_;(with_reducible refine (tr_Months.calls a1 t499 _ A31.out).mono ?_);rintro e w' ⟨rfl,⟨nd,rfl⟩⟩;refine ⟨_,rfl,?_⟩))
        (try simp only [Act.put,List.setIfInBounds_toArray,List.set_cons_zero,List.set_cons_succ])
        go_cut [18] (fun v18 wc=>∃ (kq:Nat) (x18_31:Int),v18=.int .i64 x18_31∧Aside0 (tl_SkyMonths.j2 kq a1 a2 t490 t491 t492 t493 x18_31 x17_11 0 l0_0 a0_1 a0_2 a0_3=some r)∧Aside0 (kq≤kj26)∧Aside0 (wc.heap[gb484]?=some (.cells #[(.slice A0_0 l0_0.length c0_0),.int .i64 a0_1,.int .i64 a0_2,.int .i64 a0_3] 29 (0,0)))∧Aside0 (Below w.heap.size w wc))
        case first=>
         have H:=HC32.out
         clear HC32
         by_cases c33:t499=true
         ·subst c33
          have H1:(tl_SkyMonths.j2 kj26 a1 a2 t490 t491 t492 t493 x17_11 x17_11 0 l0_0 a0_1 a0_2 a0_3)=some r:=by rw [if_pos rfl] at H;exact H
          clear H;have H:=H1;clear H1
          have H':=A0_ H
          clear H;go_wp2
          go_meet
          case rel=>exact ⟨_,(x17_11),y4_,H',⟨by have:=HJ11.out;have:=HJ26.out;first|omega|exact Nat.le_refl _⟩,⟨by (with_reducible repeat (first|refine blk_drewN ?_ _|refine blk_drew ?_|refine blk_alloc ?_ _));exact BK484.out⟩,⟨(by repeat (first|(with_reducible first|exact HB.out|apply below_alloc|apply pw_below_drewN|apply below_drew1|refine below_set ?_ GE484.out)|exact HB.out))⟩⟩
         ·replace c33:=Bool.eq_false_iff.mpr c33;subst c33
          have H1:(tl_SkyMonths.j2 kj26 a1 a2 t490 t491 t492 t493 2 x17_11 0 l0_0 a0_1 a0_2 a0_3)=some r:=by rw [if_neg (show ¬ (false=true) by decide)] at H;exact H
          clear H;have H:=H1;clear H1
          have H':=A0_ H
          clear H;go_wp2
          go_meet
          case rel=>exact ⟨_,(2),y4_,H',⟨by have:=HJ11.out;have:=HJ26.out;first|omega|exact Nat.le_refl _⟩,⟨by (with_reducible repeat (first|refine blk_drewN ?_ _|refine blk_drew ?_|refine blk_alloc ?_ _));exact BK484.out⟩,⟨(by repeat (first|(with_reducible first|exact HB.out|apply below_alloc|apply pw_below_drewN|apply below_drew1|refine below_set ?_ GE484.out)|exact HB.out))⟩⟩
        case rest=>
         clear HC32;(try clear c1);(try clear c2);(try clear p2);(try clear c3);(try clear c5);(try clear c6);(try clear c10);(try clear c14);(try clear c17);(try clear c26);(try clear c28);(try clear c28b0);(try clear c28b1);(try clear c29);(try clear c29b0);(try clear c29b1);(try clear c30);(try clear c32);(try clear c33);(try clear hcz14_0);(try clear hcz14_1);(try clear hcz14_2);(try clear hcz14_3);(try clear hcz16_0);(try clear hcz16_1);(try clear hcz16_2);(try clear hcz16_3);(try clear hcz18_0);(try clear hcz18_1);(try clear hcz18_2);(try clear hcz18_3);(try clear hcz20_0);(try clear hcz20_1);(try clear hcz20_2);(try clear hcz20_3);(try clear hcz22_0);(try clear hcz22_1);(try clear hcz22_2);(try clear hcz22_3);(try clear hcz24_0);(try clear hcz24_1);(try clear hcz24_2);(try clear hcz24_3);(try clear hfz14_0);(try clear hfz14_1);(try clear hfz14_2);(try clear hfz14_3);(try clear hfz16_0);(try clear hfz16_1);(try clear hfz16_2);(try clear hfz16_3);(try clear hfz18_0);(try clear hfz18_1);(try clear hfz18_2);(try clear hfz18_3);(try clear hfz20_0);(try clear hfz20_1);(try clear hfz20_2);(try clear hfz20_3);(try clear hfz22_0);(try clear hfz22_1);(try clear hfz22_2);(try clear hfz22_3);(try clear hfz24_0);(try clear hfz24_1);(try clear hfz24_2);(try clear hfz24_3);(try clear p2)
         obtain ⟨kq,x18_31,rfl,HA,HJ31,BK484,HB⟩:=hcut
         cases kq with
         |zero=>exact absurd HA.out (by simp [tl_SkyMonths.j2])
         |succ kj31=>
          have H:=HA.out
          clear HA
          simp only [tl_SkyMonths.j2] at H
          replace H:=Option.bind_eq_some_iff.mp H;obtain ⟨t500,A340,H⟩:=H
          replace H:(if t500=true then (tl_SkyMonths.j3 kj31 a1 a2 t490 t491 t492 t493 x18_31 x17_11 0 l0_0 a0_1 a0_2 a0_3) else (tl_SkyMonths.j3 kj31 a1 a2 t490 t491 t492 t493 x18_31 2 0 l0_0 a0_1 a0_2 a0_3))=some r:=H
          have A34:=A0_ A340;clear A340;have HC35:=A0_ H;clear H
          go_upto_if 103 with (first|((with_reducible refine gate_callee (f:=37) rfl ?_);refine goesL_ (some 102) rfl rfl Tryz.func37 (by kernel_rfl) rfl #[.int .i64 a2] rfl y1_ ?_;(with_reducible refine (tr_Limit.calls a2 t500 _ A34.out).mono ?_);rintro e w' ⟨rfl,⟨nd,rfl⟩⟩;refine ⟨_,rfl,?_⟩))
          (try simp only [Act.put,List.setIfInBounds_toArray,List.set_cons_zero,List.set_cons_succ])
          go_cut [19] (fun v19 wc=>∃ (kq:Nat) (x19_34:Int),v19=.int .i64 x19_34∧Aside0 (tl_SkyMonths.j3 kq a1 a2 t490 t491 t492 t493 x18_31 x19_34 0 l0_0 a0_1 a0_2 a0_3=some r)∧Aside0 (kq≤kj31)∧Aside0 (wc.heap[gb484]?=some (.cells #[(.slice A0_0 l0_0.length c0_0),.int .i64 a0_1,.int .i64 a0_2,.int .i64 a0_3] 29 (0,0)))∧Aside0 (Below w.heap.size w wc))
          case first=>
           have H:=HC35.out
           clear HC35
           by_cases c36:t500=true
           ·subst c36
            have H1:(tl_SkyMonths.j3 kj31 a1 a2 t490 t491 t492 t493 x18_31 x17_11 0 l0_0 a0_1 a0_2 a0_3)=some r:=by rw [if_pos rfl] at H;exact H
            clear H;have H:=H1;clear H1
            have H':=A0_ H
            clear H;go_wp2
            go_meet
            case rel=>exact ⟨_,(x17_11),y4_,H',⟨by have:=HJ11.out;have:=HJ26.out;have:=HJ31.out;first|omega|exact Nat.le_refl _⟩,⟨by (with_reducible repeat (first|refine blk_drewN ?_ _|refine blk_drew ?_|refine blk_alloc ?_ _));exact BK484.out⟩,⟨(by repeat (first|(with_reducible first|exact HB.out|apply below_alloc|apply pw_below_drewN|apply below_drew1|refine below_set ?_ GE484.out)|exact HB.out))⟩⟩
           ·replace c36:=Bool.eq_false_iff.mpr c36;subst c36
            have H1:(tl_SkyMonths.j3 kj31 a1 a2 t490 t491 t492 t493 x18_31 2 0 l0_0 a0_1 a0_2 a0_3)=some r:=by rw [if_neg (show ¬ (false=true) by decide)] at H;exact H
            clear H;have H:=H1;clear H1
            have H':=A0_ H
            clear H;go_wp2
            go_meet
            case rel=>exact ⟨_,(2),y4_,H',⟨by have:=HJ11.out;have:=HJ26.out;have:=HJ31.out;first|omega|exact Nat.le_refl _⟩,⟨by (with_reducible repeat (first|refine blk_drewN ?_ _|refine blk_drew ?_|refine blk_alloc ?_ _));exact BK484.out⟩,⟨(by repeat (first|(with_reducible first|exact HB.out|apply below_alloc|apply pw_below_drewN|apply below_drew1|refine below_set ?_ GE484.out)|exact HB.out))⟩⟩
          case rest=>
           clear HC35;(try clear c1);(try clear c2);(try clear p2);(try clear c3);(try clear c5);(try clear c6);(try clear c10);(try clear c14);(try clear c17);(try clear c26);(try clear c28);(try clear c28b0);(try clear c28b1);(try clear c29);(try clear c29b0);(try clear c29b1);(try clear c30);(try clear c32);(try clear c33);(try clear c34);(try clear c35);(try clear c36);(try clear hcz14_0);(try clear hcz14_1);(try clear hcz14_2);(try clear hcz14_3);(try clear hcz16_0);(try clear hcz16_1);(try clear hcz16_2);(try clear hcz16_3);(try clear hcz18_0);(try clear hcz18_1);(try clear hcz18_2);(try clear hcz18_3);(try clear hcz20_0);(try clear hcz20_1);(try clear hcz20_2);(try clear hcz20_3);(try clear hcz22_0);(try clear hcz22_1);(try clear hcz22_2);(try clear hcz22_3);(try clear hcz24_0);(try clear hcz24_1);(try clear hcz24_2);(try clear hcz24_3);(try clear hfz14_0);(try clear hfz14_1);(try clear hfz14_2);(try clear hfz14_3);(try clear hfz16_0);(try clear hfz16_1);(try clear hfz16_2);(try clear hfz16_3);(try clear hfz18_0);(try clear hfz18_1);(try clear hfz18_2);(try clear hfz18_3);(try clear hfz20_0);(try clear hfz20_1);(try clear hfz20_2);(try clear hfz20_3);(try clear hfz22_0);(try clear hfz22_1);(try clear hfz22_2);(try clear hfz22_3);(try clear hfz24_0);(try clear hfz24_1);(try clear hfz24_2);(try clear hfz24_3);(try clear p2)
           obtain ⟨kq,x19_34,rfl,HA,HJ34,BK484,HB⟩:=hcut
           cases kq with
           |zero=>exact absurd HA.out (by simp [tl_SkyMonths.j3])
           |succ kj34=>
            have H:=HA.out
            clear HA
            simp only [tl_SkyMonths.j3] at H
            have HC37:=A0_ H;clear H
            go_upto_if 105 with (fail)
            go_cut [19,20] (fun v19 v20 wc=>∃ (kq:Nat) (x19_36:Int) (x20_36:Int),v19=.int .i64 x19_36∧v20=.int .i64 x20_36∧Aside0 (tl_SkyMonths.j4 kq a1 t490 t491 t492 t493 x18_31 x19_36 x20_36 l0_0 a0_1 a0_2 a0_3=some r)∧Aside0 (kq≤kj34)∧Aside0 (wc.heap[gb484]?=some (.cells #[(.slice A0_0 l0_0.length c0_0),.int .i64 a0_1,.int .i64 a0_2,.int .i64 a0_3] 29 (0,0)))∧Aside0 (Below w.heap.size w wc))
            case first=>
             have H:=HC37.out
             clear HC37
             by_cases c38:x19_34=0
             ·rw [if_pos c38] at H
              have c38b0:(x19_34 == 0)=true:=beq_iff_eq.mpr c38
              have c38b1:(x19_34 != 0)=false:=bne_eq_false_iff_eq.mpr c38
              clear c38
              (first|rw [c38b0]|(simp only [i64_w,i32_w];rw [c38b0])|skip)
              replace H:=Option.bind_eq_some_iff.mp H;obtain ⟨t501,A390,H⟩:=H
              replace H:(if t501<0 then (tl_SkyMonths.j4 kj34 a1 t490 t491 t492 t493 x18_31 5 0 l0_0 a0_1 a0_2 a0_3) else (tl_SkyMonths.j4 kj34 a1 t490 t491 t492 t493 x18_31 x19_34 t501 l0_0 a0_1 a0_2 a0_3))=some r:=H
              have A39:=A0_ A390;clear A390
              by_cases c40:t501<0
              ·rw [if_pos c40] at H;have c40b0:decide (t501<0)=true:=decide_eq_true c40;clear c40
               have H':=A0_ H
               clear H;obtain ⟨hcz41_0,hcz41_1,hcz41_2,hcz41_3,hfz41_0,hfz41_1,hfz41_2,hfz41_3⟩:=bq4_ BK484.out
               go_wp2_with (first|((with_reducible refine gate_callee (f:=38) rfl ?_);refine goesL_ (some 108) rfl rfl Tryz.func38 (by kernel_rfl) rfl #[.agg #[.slice A0_0 l0_0.length c0_0,.int .i64 a0_1,.int .i64 a0_2,.int .i64 a0_3],.int .i64 a2] rfl y1_ ?_;(with_reducible refine (tr_Cycle.calls kj34 _ _ l0_0 a0_1 a0_2 a0_3 a2 t501 _ ?side1 ?side2 A39.out).mono ?_);(case side1=>repeat (first|exact (Kd.C_below HR0_0.out HB.out)|(with_reducible refine Kd.C_alloc ?_ _)|(with_reducible refine Kd.C_drewN ?_ _)|(with_reducible refine Kd.C_drew ?_)));(case side2=>exact HC0_0.out);rintro e w42 ⟨rfl,hb⟩;refine ⟨_,rfl,?_⟩;have n0_:=A0_ (blk_below (g:=gb484) (o:=.cells #[.slice A0_0 l0_0.length c0_0,.int .i64 a0_1,.int .i64 a0_2,.int .i64 a0_3] 29 (0,0)) (bd_ BK484.out) hb);have n1_:=A0_ (below_step (by repeat (first|(with_reducible first|exact HB.out|apply below_alloc|apply pw_below_drewN|apply below_drew1|refine below_set ?_ GE484.out)|exact HB.out)) hb);clear BK484;clear HB;have BK484:=n0_;have HB:=n1_;clear n0_ n1_;(try clear hb);(try clear hb2);(try clear hk);(try clear hi)))
               go_meet
               case rel=>exact ⟨_,(5),(0),y4_,y4_,H',⟨by have:=HJ11.out;have:=HJ26.out;have:=HJ31.out;have:=HJ34.out;first|omega|exact Nat.le_refl _⟩,⟨by (with_reducible repeat (first|refine blk_drewN ?_ _|refine blk_drew ?_|refine blk_alloc ?_ _));exact BK484.out⟩,⟨(by repeat (first|(with_reducible first|exact HB.out|apply below_alloc|apply pw_below_drewN|apply below_drew1|refine below_set ?_ GE484.out)|exact HB.out))⟩⟩
              ·rw [if_neg c40] at H;have c40b0:decide (t501<0)=false:=decide_eq_false c40;clear c40
               have H':=A0_ H
               clear H;obtain ⟨hcz43_0,hcz43_1,hcz43_2,hcz43_3,hfz43_0,hfz43_1,hfz43_2,hfz43_3⟩:=bq4_ BK484.out
               go_wp2_with (first|((with_reducible refine gate_callee (f:=38) rfl ?_);refine goesL_ (some 108) rfl rfl Tryz.func38 (by kernel_rfl) rfl #[.agg #[.slice A0_0 l0_0.length c0_0,.int .i64 a0_1,.int .i64 a0_2,.int .i64 a0_3],.int .i64 a2] rfl y1_ ?_;(with_reducible refine (tr_Cycle.calls kj34 _ _ l0_0 a0_1 a0_2 a0_3 a2 t501 _ ?side1 ?side2 A39.out).mono ?_);(case side1=>repeat (first|exact (Kd.C_below HR0_0.out HB.out)|(with_reducible refine Kd.C_alloc ?_ _)|(with_reducible refine Kd.C_drewN ?_ _)|(with_reducible refine Kd.C_drew ?_)));(case side2=>exact HC0_0.out);rintro e w44 ⟨rfl,hb⟩;refine ⟨_,rfl,?_⟩;have n0_:=A0_ (blk_below (g:=gb484) (o:=.cells #[.slice A0_0 l0_0.length c0_0,.int .i64 a0_1,.int .i64 a0_2,.int .i64 a0_3] 29 (0,0)) (bd_ BK484.out) hb);have n1_:=A0_ (below_step (by repeat (first|(with_reducible first|exact HB.out|apply below_alloc|apply pw_below_drewN|apply below_drew1|refine below_set ?_ GE484.out)|exact HB.out)) hb);clear BK484;clear HB;have BK484:=n0_;have HB:=n1_;clear n0_ n1_;(try clear hb);(try clear hb2);(try clear hk);(try clear hi)))
               go_meet
               case rel=>exact ⟨_,(x19_34),(t501),y4_,y4_,H',⟨by have:=HJ11.out;have:=HJ26.out;have:=HJ31.out;have:=HJ34.out;first|omega|exact Nat.le_refl _⟩,⟨by (with_reducible repeat (first|refine blk_drewN ?_ _|refine blk_drew ?_|refine blk_alloc ?_ _));exact BK484.out⟩,⟨(by repeat (first|(with_reducible first|exact HB.out|apply below_alloc|apply pw_below_drewN|apply below_drew1|refine below_set ?_ GE484.out)|exact HB.out))⟩⟩
             ·rw [if_neg c38] at H
              have c38b0:(x19_34 == 0)=false:=beq_eq_false_iff_ne.mpr c38
              have c38b1:(x19_34 != 0)=true:=bne_iff_ne.mpr c38
              (first|rw [c38b0]|(simp only [i64_w,i32_w];rw [c38b0])|skip)
              have H':=A0_ H
              clear H;go_wp2
              go_meet
              case rel=>exact ⟨_,(x19_34),(0),y4_,y4_,H',⟨by have:=HJ11.out;have:=HJ26.out;have:=HJ31.out;have:=HJ34.out;first|omega|exact Nat.le_refl _⟩,⟨by (with_reducible repeat (first|refine blk_drewN ?_ _|refine blk_drew ?_|refine blk_alloc ?_ _));exact BK484.out⟩,⟨(by repeat (first|(with_reducible first|exact HB.out|apply below_alloc|apply pw_below_drewN|apply below_drew1|refine below_set ?_ GE484.out)|exact HB.out))⟩⟩
            case rest=>
             clear HC37;(try clear c1);(try clear c2);(try clear p2);(try clear c3);(try clear c4);(try clear c5);(try clear c6);(try clear c10);(try clear c14);(try clear c17);(try clear c26);(try clear c28);(try clear c28b0);(try clear c28b1);(try clear c29);(try clear c29b0);(try clear c29b1);(try clear c30);(try clear c32);(try clear c33);(try clear c34);(try clear c35);(try clear c36);(try clear c37);(try clear c38);(try clear c38b0);(try clear c38b1);(try clear c40);(try clear c40b0);(try clear hcz14_0);(try clear hcz14_1);(try clear hcz14_2);(try clear hcz14_3);(try clear hcz16_0);(try clear hcz16_1);(try clear hcz16_2);(try clear hcz16_3);(try clear hcz18_0);(try clear hcz18_1);(try clear hcz18_2);(try clear hcz18_3);(try clear hcz20_0);(try clear hcz20_1);(try clear hcz20_2);(try clear hcz20_3);(try clear hcz22_0);(try clear hcz22_1);(try clear hcz22_2);(try clear hcz22_3);(try clear hcz24_0);(try clear hcz24_1);(try clear hcz24_2);(try clear hcz24_3);(try clear hcz41_0);(try clear hcz41_1);(try clear hcz41_2);(try clear hcz41_3);(try clear hcz43_0);(try clear hcz43_1);(try clear hcz43_2);(try clear hcz43_3);(try clear hfz14_0);(try clear hfz14_1);(try clear hfz14_2);(try clear hfz14_3);(try clear hfz16_0);(try clear hfz16_1);(try clear hfz16_2);(try clear hfz16_3);(try clear hfz18_0);(try clear hfz18_1);(try clear hfz18_2);(try clear hfz18_3);(try clear hfz20_0);(try clear hfz20_1);(try clear hfz20_2);(try clear hfz20_3);(try clear hfz22_0);(try clear hfz22_1);(try clear hfz22_2);(try clear hfz22_3);(try clear hfz24_0);(try clear hfz24_1);(try clear hfz24_2);(try clear hfz24_3);(try clear hfz41_0);(try clear hfz41_1);(try clear hfz41_2);(try clear hfz41_3);(try clear hfz43_0);(try clear hfz43_1);(try clear hfz43_2);(try clear hfz43_3);(try clear p2)
             obtain ⟨kq,x19_36,x20_36,rfl,rfl,HA,HJ36,BK484,HB⟩:=hcut
             cases kq with
             |zero=>exact absurd HA.out (by simp [tl_SkyMonths.j4])
             |succ kj36=>
              have H:=HA.out
              clear HA
              simp only [tl_SkyMonths.j4] at H
              by_cases c45:x18_31=0
              ·rw [if_pos c45] at H
               have c45b0:(x18_31 == 0)=true:=beq_iff_eq.mpr c45
               have c45b1:(x18_31 != 0)=false:=bne_eq_false_iff_eq.mpr c45
               clear c45
               by_cases c46:t491=0
               ·rw [if_pos c46] at H
                have c46b0:(t491 == 0)=true:=beq_iff_eq.mpr c46
                have c46b1:(t491 != 0)=false:=bne_eq_false_iff_eq.mpr c46
                clear c46;replace H:=Option.bind_eq_some_iff.mp H;obtain ⟨t502,A470,H⟩:=H
                replace H:(if t490=t502 then (if t493=x19_36 then (if t492=x20_36 then ((tl_known.f).bind fun t503=>(some t503)) else (some false)) else (some false)) else (some false))=some r:=H
                have A47:=A0_ A470;clear A470
                by_cases c48:t490=t502
                ·rw [if_pos c48] at H
                 have c48b0:(t490 == t502)=true:=beq_iff_eq.mpr c48
                 have c48b1:(t490 != t502)=false:=bne_eq_false_iff_eq.mpr c48
                 clear c48
                 by_cases c49:t493=x19_36
                 ·rw [if_pos c49] at H
                  have c49b0:(t493 == x19_36)=true:=beq_iff_eq.mpr c49
                  have c49b1:(t493 != x19_36)=false:=bne_eq_false_iff_eq.mpr c49
                  clear c49
                  by_cases c50:t492=x20_36
                  ·rw [if_pos c50] at H
                   have c50b0:(t492 == x20_36)=true:=beq_iff_eq.mpr c50
                   have c50b1:(t492 != x20_36)=false:=bne_eq_false_iff_eq.mpr c50
                   clear c50;replace H:=Option.bind_eq_some_iff.mp H;obtain ⟨t503,A510,H⟩:=H
                   replace H:(some t503)=some r:=H
                   have A51:=A0_ A510;clear A510;obtain rfl:=Option.some.inj H;obtain ⟨hcz52_0,hcz52_1,hcz52_2,hcz52_3,hfz52_0,hfz52_1,hfz52_2,hfz52_3⟩:=bq4_ BK484.out
                   go_wp2_with (first|(go_at_call 39;(with_reducible refine (tr_Drift.calls _ _ l0_0 a0_1 a0_2 a0_3 a1 t502 _ ?side1 ?side2 A47.out).mono ?_);(case side1=>repeat (first|exact (Kd.C_below HR0_0.out HB.out)|(with_reducible refine Kd.C_alloc ?_ _)|(with_reducible refine Kd.C_drewN ?_ _)|(with_reducible refine Kd.C_drew ?_)));(case side2=>exact HC0_0.out);rintro e w53 ⟨rfl,hb⟩;have n0_:=A0_ (blk_below (g:=gb484) (o:=.cells #[.slice A0_0 l0_0.length c0_0,.int .i64 a0_1,.int .i64 a0_2,.int .i64 a0_3] 29 (0,0)) (bd_ BK484.out) hb);have n1_:=A0_ (below_step (by repeat (first|(with_reducible first|exact HB.out|apply below_alloc|apply pw_below_drewN|apply below_drew1|refine below_set ?_ GE484.out)|exact HB.out)) hb);clear BK484;clear HB;have BK484:=n0_;have HB:=n1_;clear n0_ n1_;(try clear hb);(try clear hb2);(try clear hk);(try clear hi))|(go_at_call 11;(with_reducible refine (tl_known.calls  t503 _ A51.out ?side1).mono ?_);(case side1=>exact LD.below HLD.out (by repeat (first|(with_reducible first|exact HB.out|apply below_alloc|apply pw_below_drewN|apply below_drew1|refine below_set ?_ GE484.out)|exact HB.out)));rintro e w54 ⟨rfl,hb⟩;have n0_:=A0_ (blk_below (g:=gb484) (o:=.cells #[.slice A0_0 l0_0.length c0_0,.int .i64 a0_1,.int .i64 a0_2,.int .i64 a0_3] 29 (0,0)) (bd_ BK484.out) hb);have n1_:=A0_ (below_step (by repeat (first|(with_reducible first|exact HB.out|apply below_alloc|apply pw_below_drewN|apply below_drew1|refine below_set ?_ GE484.out)|exact HB.out)) hb);clear BK484;clear HB;have BK484:=n0_;have HB:=n1_;clear n0_ n1_;(try clear hb);(try clear hb2);(try clear hk);(try clear hi)))
                   go_ret
                   exact ⟨y2_,(by repeat (first|(with_reducible first|exact HB.out|apply below_alloc|apply pw_below_drewN|apply below_drew1|refine below_set ?_ GE484.out)|exact HB.out))⟩
                  ·rw [if_neg c50] at H
                   have c50b0:(t492 == x20_36)=false:=beq_eq_false_iff_ne.mpr c50
                   have c50b1:(t492 != x20_36)=true:=bne_iff_ne.mpr c50
                   obtain rfl:=Option.some.inj H;obtain ⟨hcz55_0,hcz55_1,hcz55_2,hcz55_3,hfz55_0,hfz55_1,hfz55_2,hfz55_3⟩:=bq4_ BK484.out
                   go_wp2_with (first|(go_at_call 39;(with_reducible refine (tr_Drift.calls _ _ l0_0 a0_1 a0_2 a0_3 a1 t502 _ ?side1 ?side2 A47.out).mono ?_);(case side1=>repeat (first|exact (Kd.C_below HR0_0.out HB.out)|(with_reducible refine Kd.C_alloc ?_ _)|(with_reducible refine Kd.C_drewN ?_ _)|(with_reducible refine Kd.C_drew ?_)));(case side2=>exact HC0_0.out);rintro e w56 ⟨rfl,hb⟩;have n0_:=A0_ (blk_below (g:=gb484) (o:=.cells #[.slice A0_0 l0_0.length c0_0,.int .i64 a0_1,.int .i64 a0_2,.int .i64 a0_3] 29 (0,0)) (bd_ BK484.out) hb);have n1_:=A0_ (below_step (by repeat (first|(with_reducible first|exact HB.out|apply below_alloc|apply pw_below_drewN|apply below_drew1|refine below_set ?_ GE484.out)|exact HB.out)) hb);clear BK484;clear HB;have BK484:=n0_;have HB:=n1_;clear n0_ n1_;(try clear hb);(try clear hb2);(try clear hk);(try clear hi)))
                   go_ret
                   exact ⟨y2_,(by repeat (first|(with_reducible first|exact HB.out|apply below_alloc|apply pw_below_drewN|apply below_drew1|refine below_set ?_ GE484.out)|exact HB.out))⟩
                 ·rw [if_neg c49] at H
                  have c49b0:(t493 == x19_36)=false:=beq_eq_false_iff_ne.mpr c49
                  have c49b1:(t493 != x19_36)=true:=bne_iff_ne.mpr c49
                  obtain rfl:=Option.some.inj H;obtain ⟨hcz57_0,hcz57_1,hcz57_2,hcz57_3,hfz57_0,hfz57_1,hfz57_2,hfz57_3⟩:=bq4_ BK484.out
                  go_wp2_with (first|(go_at_call 39;(with_reducible refine (tr_Drift.calls _ _ l0_0 a0_1 a0_2 a0_3 a1 t502 _ ?side1 ?side2 A47.out).mono ?_);(case side1=>repeat (first|exact (Kd.C_below HR0_0.out HB.out)|(with_reducible refine Kd.C_alloc ?_ _)|(with_reducible refine Kd.C_drewN ?_ _)|(with_reducible refine Kd.C_drew ?_)));(case side2=>exact HC0_0.out);rintro e w58 ⟨rfl,hb⟩;have n0_:=A0_ (blk_below (g:=gb484) (o:=.cells #[.slice A0_0 l0_0.length c0_0,.int .i64 a0_1,.int .i64 a0_2,.int .i64 a0_3] 29 (0,0)) (bd_ BK484.out) hb);have n1_:=A0_ (below_step (by repeat (first|(with_reducible first|exact HB.out|apply below_alloc|apply pw_below_drewN|apply below_drew1|refine below_set ?_ GE484.out)|exact HB.out)) hb);clear BK484;clear HB;have BK484:=n0_;have HB:=n1_;clear n0_ n1_;(try clear hb);(try clear hb2);(try clear hk);(try clear hi)))
                  go_ret
                  exact ⟨y2_,(by repeat (first|(with_reducible first|exact HB.out|apply below_alloc|apply pw_below_drewN|apply below_drew1|refine below_set ?_ GE484.out)|exact HB.out))⟩
                ·rw [if_neg c48] at H
                 have c48b0:(t490 == t502)=false:=beq_eq_false_iff_ne.mpr c48
                 have c48b1:(t490 != t502)=true:=bne_iff_ne.mpr c48
                 obtain rfl:=Option.some.inj H;obtain ⟨hcz59_0,hcz59_1,hcz59_2,hcz59_3,hfz59_0,hfz59_1,hfz59_2,hfz59_3⟩:=bq4_ BK484.out
                 go_wp2_with (first|(go_at_call 39;(with_reducible refine (tr_Drift.calls _ _ l0_0 a0_1 a0_2 a0_3 a1 t502 _ ?side1 ?side2 A47.out).mono ?_);(case side1=>repeat (first|exact (Kd.C_below HR0_0.out HB.out)|(with_reducible refine Kd.C_alloc ?_ _)|(with_reducible refine Kd.C_drewN ?_ _)|(with_reducible refine Kd.C_drew ?_)));(case side2=>exact HC0_0.out);rintro e w60 ⟨rfl,hb⟩;have n0_:=A0_ (blk_below (g:=gb484) (o:=.cells #[.slice A0_0 l0_0.length c0_0,.int .i64 a0_1,.int .i64 a0_2,.int .i64 a0_3] 29 (0,0)) (bd_ BK484.out) hb);have n1_:=A0_ (below_step (by repeat (first|(with_reducible first|exact HB.out|apply below_alloc|apply pw_below_drewN|apply below_drew1|refine below_set ?_ GE484.out)|exact HB.out)) hb);clear BK484;clear HB;have BK484:=n0_;have HB:=n1_;clear n0_ n1_;(try clear hb);(try clear hb2);(try clear hk);(try clear hi)))
                 go_ret
                 exact ⟨y2_,(by repeat (first|(with_reducible first|exact HB.out|apply below_alloc|apply pw_below_drewN|apply below_drew1|refine below_set ?_ GE484.out)|exact HB.out))⟩
               ·rw [if_neg c46] at H
                have c46b0:(t491 == 0)=false:=beq_eq_false_iff_ne.mpr c46
                have c46b1:(t491 != 0)=true:=bne_iff_ne.mpr c46
                obtain rfl:=Option.some.inj H;go_wp2;go_ret
                exact ⟨y2_,(by repeat (first|(with_reducible first|exact HB.out|apply below_alloc|apply pw_below_drewN|apply below_drew1|refine below_set ?_ GE484.out)|exact HB.out))⟩
              ·rw [if_neg c45] at H
               have c45b0:(x18_31 == 0)=false:=beq_eq_false_iff_ne.mpr c45
               have c45b1:(x18_31 != 0)=true:=bne_iff_ne.mpr c45
               by_cases c61:t491=x18_31
               ·rw [if_pos c61] at H
                have c61b0:(t491 == x18_31)=true:=beq_iff_eq.mpr c61
                have c61b1:(t491 != x18_31)=false:=bne_eq_false_iff_eq.mpr c61
                clear c61
                by_cases c62:t490=0
                ·rw [if_pos c62] at H
                 have c62b0:(t490 == 0)=true:=beq_iff_eq.mpr c62
                 have c62b1:(t490 != 0)=false:=bne_eq_false_iff_eq.mpr c62
                 clear c62
                 by_cases c63:t493=x19_36
                 ·rw [if_pos c63] at H
                  have c63b0:(t493 == x19_36)=true:=beq_iff_eq.mpr c63
                  have c63b1:(t493 != x19_36)=false:=bne_eq_false_iff_eq.mpr c63
                  clear c63
                  by_cases c64:t492=x20_36
                  ·rw [if_pos c64] at H
                   have c64b0:(t492 == x20_36)=true:=beq_iff_eq.mpr c64
                   have c64b1:(t492 != x20_36)=false:=bne_eq_false_iff_eq.mpr c64
                   clear c64;replace H:=Option.bind_eq_some_iff.mp H;obtain ⟨t504,A650,H⟩:=H
                   replace H:(some t504)=some r:=H
                   have A65:=A0_ A650;clear A650;obtain rfl:=Option.some.inj H
                   go_wp2_with (first|(go_at_call 11;(with_reducible refine (tl_known.calls  t504 _ A65.out ?side1).mono ?_);(case side1=>exact LD.below HLD.out (by repeat (first|(with_reducible first|exact HB.out|apply below_alloc|apply pw_below_drewN|apply below_drew1|refine below_set ?_ GE484.out)|exact HB.out)));rintro e w66 ⟨rfl,hb⟩;have n0_:=A0_ (blk_below (g:=gb484) (o:=.cells #[.slice A0_0 l0_0.length c0_0,.int .i64 a0_1,.int .i64 a0_2,.int .i64 a0_3] 29 (0,0)) (bd_ BK484.out) hb);have n1_:=A0_ (below_step (by repeat (first|(with_reducible first|exact HB.out|apply below_alloc|apply pw_below_drewN|apply below_drew1|refine below_set ?_ GE484.out)|exact HB.out)) hb);clear BK484;clear HB;have BK484:=n0_;have HB:=n1_;clear n0_ n1_;(try clear hb);(try clear hb2);(try clear hk);(try clear hi)))
                   go_ret
                   exact ⟨y2_,(by repeat (first|(with_reducible first|exact HB.out|apply below_alloc|apply pw_below_drewN|apply below_drew1|refine below_set ?_ GE484.out)|exact HB.out))⟩
                  ·rw [if_neg c64] at H
                   have c64b0:(t492 == x20_36)=false:=beq_eq_false_iff_ne.mpr c64
                   have c64b1:(t492 != x20_36)=true:=bne_iff_ne.mpr c64
                   obtain rfl:=Option.some.inj H;go_wp2;go_ret
                   exact ⟨y2_,(by repeat (first|(with_reducible first|exact HB.out|apply below_alloc|apply pw_below_drewN|apply below_drew1|refine below_set ?_ GE484.out)|exact HB.out))⟩
                 ·rw [if_neg c63] at H
                  have c63b0:(t493 == x19_36)=false:=beq_eq_false_iff_ne.mpr c63
                  have c63b1:(t493 != x19_36)=true:=bne_iff_ne.mpr c63
                  obtain rfl:=Option.some.inj H;go_wp2;go_ret
                  exact ⟨y2_,(by repeat (first|(with_reducible first|exact HB.out|apply below_alloc|apply pw_below_drewN|apply below_drew1|refine below_set ?_ GE484.out)|exact HB.out))⟩
                ·rw [if_neg c62] at H
                 have c62b0:(t490 == 0)=false:=beq_eq_false_iff_ne.mpr c62
                 have c62b1:(t490 != 0)=true:=bne_iff_ne.mpr c62
                 obtain rfl:=Option.some.inj H;go_wp2;go_ret
                 exact ⟨y2_,(by repeat (first|(with_reducible first|exact HB.out|apply below_alloc|apply pw_below_drewN|apply below_drew1|refine below_set ?_ GE484.out)|exact HB.out))⟩
               ·rw [if_neg c61] at H
                have c61b0:(t491 == x18_31)=false:=beq_eq_false_iff_ne.mpr c61
                have c61b1:(t491 != x18_31)=true:=bne_iff_ne.mpr c61
                obtain rfl:=Option.some.inj H;go_wp2;go_ret
                exact ⟨y2_,(by repeat (first|(with_reducible first|exact HB.out|apply below_alloc|apply pw_below_drewN|apply below_drew1|refine below_set ?_ GE484.out)|exact HB.out))⟩
  ·replace c10:=Bool.eq_false_iff.mpr c10;subst c10
   have H1:(if t489=2 then (if t487=0 then (if t488=0 then (if t491=2 then (if t490=0 then (if t493=2 then (if t492=0 then ((tl_known.f).bind fun t495=>(some t495)) else (some false)) else (some false)) else (some false)) else (some false)) else (some false)) else (some false)) else (some false))=some r:=by rw [if_neg (show ¬ (false=true) by decide)] at H;exact H
   clear H;have H:=H1;clear H1
   by_cases c67:t489=2
   ·rw [if_pos c67] at H
    have c67b0:(t489 == 2)=true:=beq_iff_eq.mpr c67
    have c67b1:(t489 != 2)=false:=bne_eq_false_iff_eq.mpr c67
    clear c67
    by_cases c68:t487=0
    ·rw [if_pos c68] at H
     have c68b0:(t487 == 0)=true:=beq_iff_eq.mpr c68
     have c68b1:(t487 != 0)=false:=bne_eq_false_iff_eq.mpr c68
     clear c68
     by_cases c69:t488=0
     ·rw [if_pos c69] at H
      have c69b0:(t488 == 0)=true:=beq_iff_eq.mpr c69
      have c69b1:(t488 != 0)=false:=bne_eq_false_iff_eq.mpr c69
      clear c69
      by_cases c70:t491=2
      ·rw [if_pos c70] at H
       have c70b0:(t491 == 2)=true:=beq_iff_eq.mpr c70
       have c70b1:(t491 != 2)=false:=bne_eq_false_iff_eq.mpr c70
       clear c70
       by_cases c71:t490=0
       ·rw [if_pos c71] at H
        have c71b0:(t490 == 0)=true:=beq_iff_eq.mpr c71
        have c71b1:(t490 != 0)=false:=bne_eq_false_iff_eq.mpr c71
        clear c71
        by_cases c72:t493=2
        ·rw [if_pos c72] at H
         have c72b0:(t493 == 2)=true:=beq_iff_eq.mpr c72
         have c72b1:(t493 != 2)=false:=bne_eq_false_iff_eq.mpr c72
         clear c72
         by_cases c73:t492=0
         ·rw [if_pos c73] at H
          have c73b0:(t492 == 0)=true:=beq_iff_eq.mpr c73
          have c73b1:(t492 != 0)=false:=bne_eq_false_iff_eq.mpr c73
          clear c73;replace H:=Option.bind_eq_some_iff.mp H;obtain ⟨t495,A740,H⟩:=H
          replace H:(some t495)=some r:=H
          have A74:=A0_ A740;clear A740;obtain rfl:=Option.some.inj H
          go_enter Tryz.func6,Tryz.ntmps6
          go_wp2_with (first|((with_reducible refine gate_dst (N:=3) rfl ?_);refine box_event ?hg (N:=3) ?hd (cs:=#[.slice A0_0 l0_0.length c0_0,.int .i64 a0_1,.int .i64 a0_2,.int .i64 a0_3]) (t:=29) ?hr ?_;(case hd=>rfl);(case hg=>rfl);(case hr=>first|(go_simp;done)|(go_simp;rfl));intro gb484 hg w75 hbox hb;have n0_:=A0_ (below_step y0_ hb);have n1_:=A0_ (hbox);have n2_:=A0_ ((by rw [hg];exact (below_size y0_):w.heap.size≤gb484));have n3_:=A0_ ((by rw [hg];exact (below_size y0_):w.heap.size≤gb484));clear HB;have HB:=n0_;have BK484:=n1_;have GW484:=n2_;have GE484:=n3_;clear n0_ n1_ n2_ n3_;clear hb hbox hg;obtain ⟨hcz76_0,hcz76_1,hcz76_2,hcz76_3,hfz76_0,hfz76_1,hfz76_2,hfz76_3⟩:=bq4_ BK484.out)|((with_reducible refine gate_callee (f:=17) rfl ?_);refine goesL_ (some 22) rfl rfl Tryz.func17 (by kernel_rfl) rfl #[.agg #[.slice A0_0 l0_0.length c0_0,.int .i64 a0_1,.int .i64 a0_2,.int .i64 a0_3]] rfl y1_ ?_;(with_reducible refine (tl_short.calls k _ _ l0_0 a0_1 a0_2 a0_3 true _ ?side1 ?side2 A4.out).mono ?_);(case side1=>repeat (first|exact (Kd.C_below HR0_0.out HB.out)|(with_reducible refine Kd.C_alloc ?_ _)|(with_reducible refine Kd.C_drewN ?_ _)|(with_reducible refine Kd.C_drew ?_)));(case side2=>exact HC0_0.out);rintro e w77 ⟨rfl,hb⟩;refine ⟨_,rfl,?_⟩;have n0_:=A0_ (blk_below (g:=gb484) (o:=.cells #[.slice A0_0 l0_0.length c0_0,.int .i64 a0_1,.int .i64 a0_2,.int .i64 a0_3] 29 (0,0)) (bd_ BK484.out) hb);have n1_:=A0_ (below_step (by repeat (first|(with_reducible first|exact HB.out|apply below_alloc|apply pw_below_drewN|apply below_drew1|refine below_set ?_ GE484.out)|exact HB.out)) hb);clear BK484;clear HB;have BK484:=n0_;have HB:=n1_;clear n0_ n1_;(try clear hb);(try clear hb2);(try clear hk);(try clear hi);obtain ⟨hcz78_0,hcz78_1,hcz78_2,hcz78_3,hfz78_0,hfz78_1,hfz78_2,hfz78_3⟩:=bq4_ BK484.out)|((with_reducible refine gate_callee (f:=32) rfl ?_);refine goesL_ (some 27) rfl rfl Tryz.func32 (by kernel_rfl) rfl #[.agg #[.slice A0_0 l0_0.length c0_0,.int .i64 a0_1,.int .i64 a0_2,.int .i64 a0_3]] rfl y1_ ?_;(with_reducible refine (sky_Month.calls k _ _ l0_0 a0_1 a0_2 a0_3 t487 t488 t489 _ ?side1 ?side2 A6.out).mono ?_);(case side1=>repeat (first|exact (Kd.C_below HR0_0.out HB.out)|(with_reducible refine Kd.C_alloc ?_ _)|(with_reducible refine Kd.C_drewN ?_ _)|(with_reducible refine Kd.C_drew ?_)));(case side2=>exact HC0_0.out);rintro e w79 ⟨rfl,hb⟩;refine ⟨_,rfl,?_⟩;have n0_:=A0_ (blk_below (g:=gb484) (o:=.cells #[.slice A0_0 l0_0.length c0_0,.int .i64 a0_1,.int .i64 a0_2,.int .i64 a0_3] 29 (0,0)) (bd_ BK484.out) hb);have n1_:=A0_ (below_step (by repeat (first|(with_reducible first|exact HB.out|apply below_alloc|apply pw_below_drewN|apply below_drew1|refine below_set ?_ GE484.out)|exact HB.out)) hb);clear BK484;clear HB;have BK484:=n0_;have HB:=n1_;clear n0_ n1_;(try clear hb);(try clear hb2);(try clear hk);(try clear hi);obtain ⟨hcz80_0,hcz80_1,hcz80_2,hcz80_3,hfz80_0,hfz80_1,hfz80_2,hfz80_3⟩:=bq4_ BK484.out)|((with_reducible refine gate_callee (f:=33) rfl ?_);refine goesL_ (some 34) rfl rfl Tryz.func33 (by kernel_rfl) rfl #[.agg #[.slice A0_0 l0_0.length c0_0,.int .i64 a0_1,.int .i64 a0_2,.int .i64 a0_3],.int .i64 a1] rfl y1_ ?_;(with_reducible refine (sky_Drift.calls k _ _ l0_0 a0_1 a0_2 a0_3 a1 t490 t491 _ ?side1 ?side2 A7.out).mono ?_);(case side1=>repeat (first|exact (Kd.C_below HR0_0.out HB.out)|(with_reducible refine Kd.C_alloc ?_ _)|(with_reducible refine Kd.C_drewN ?_ _)|(with_reducible refine Kd.C_drew ?_)));(case side2=>exact HC0_0.out);rintro e w81 ⟨rfl,hb⟩;refine ⟨_,rfl,?_⟩;have n0_:=A0_ (blk_below (g:=gb484) (o:=.cells #[.slice A0_0 l0_0.length c0_0,.int .i64 a0_1,.int .i64 a0_2,.int .i64 a0_3] 29 (0,0)) (bd_ BK484.out) hb);have n1_:=A0_ (below_step (by repeat (first|(with_reducible first|exact HB.out|apply below_alloc|apply pw_below_drewN|apply below_drew1|refine below_set ?_ GE484.out)|exact HB.out)) hb);clear BK484;clear HB;have BK484:=n0_;have HB:=n1_;clear n0_ n1_;(try clear hb);(try clear hb2);(try clear hk);(try clear hi);obtain ⟨hcz82_0,hcz82_1,hcz82_2,hcz82_3,hfz82_0,hfz82_1,hfz82_2,hfz82_3⟩:=bq4_ BK484.out)|((with_reducible refine gate_callee (f:=34) rfl ?_);refine goesL_ (some 40) rfl rfl Tryz.func34 (by kernel_rfl) rfl #[.agg #[.slice A0_0 l0_0.length c0_0,.int .i64 a0_1,.int .i64 a0_2,.int .i64 a0_3],.int .i64 a2] rfl y1_ ?_;(with_reducible refine (sky_Cycle.calls k _ _ l0_0 a0_1 a0_2 a0_3 a2 t492 t493 _ ?side1 ?side2 A8.out).mono ?_);(case side1=>repeat (first|exact (Kd.C_below HR0_0.out HB.out)|(with_reducible refine Kd.C_alloc ?_ _)|(with_reducible refine Kd.C_drewN ?_ _)|(with_reducible refine Kd.C_drew ?_)));(case side2=>exact HC0_0.out);rintro e w83 ⟨rfl,hb⟩;refine ⟨_,rfl,?_⟩;have n0_:=A0_ (blk_below (g:=gb484) (o:=.cells #[.slice A0_0 l0_0.length c0_0,.int .i64 a0_1,.int .i64 a0_2,.int .i64 a0_3] 29 (0,0)) (bd_ BK484.out) hb);have n1_:=A0_ (below_step (by repeat (first|(with_reducible first|exact HB.out|apply below_alloc|apply pw_below_drewN|apply below_drew1|refine below_set ?_ GE484.out)|exact HB.out)) hb);clear BK484;clear HB;have BK484:=n0_;have HB:=n1_;clear n0_ n1_;(try clear hb);(try clear hb2);(try clear hk);(try clear hi);obtain ⟨hcz84_0,hcz84_1,hcz84_2,hcz84_3,hfz84_0,hfz84_1,hfz84_2,hfz84_3⟩:=bq4_ BK484.out)|((with_reducible refine gate_callee (f:=14) rfl ?_);refine goesL_ (some 44) rfl rfl Tryz.func14 (by kernel_rfl) rfl #[.agg #[.slice A0_0 l0_0.length c0_0,.int .i64 a0_1,.int .i64 a0_2,.int .i64 a0_3]] rfl y1_ ?_;(with_reducible refine (tr_Sky.calls k _ _ l0_0 a0_1 a0_2 a0_3 false _ ?side1 ?side2 A9.out).mono ?_);(case side1=>repeat (first|exact (Kd.C_below HR0_0.out HB.out)|(with_reducible refine Kd.C_alloc ?_ _)|(with_reducible refine Kd.C_drewN ?_ _)|(with_reducible refine Kd.C_drew ?_)));(case side2=>exact HC0_0.out);rintro e w85 ⟨rfl,hb⟩;refine ⟨_,rfl,?_⟩;have n0_:=A0_ (blk_below (g:=gb484) (o:=.cells #[.slice A0_0 l0_0.length c0_0,.int .i64 a0_1,.int .i64 a0_2,.int .i64 a0_3] 29 (0,0)) (bd_ BK484.out) hb);have n1_:=A0_ (below_step (by repeat (first|(with_reducible first|exact HB.out|apply below_alloc|apply pw_below_drewN|apply below_drew1|refine below_set ?_ GE484.out)|exact HB.out)) hb);clear BK484;clear HB;have BK484:=n0_;have HB:=n1_;clear n0_ n1_;(try clear hb);(try clear hb2);(try clear hk);(try clear hi))|(go_at_call 11;(with_reducible refine (tl_known.calls  t495 _ A74.out ?side1).mono ?_);(case side1=>exact LD.below HLD.out (by repeat (first|(with_reducible first|exact HB.out|apply below_alloc|apply pw_below_drewN|apply below_drew1|refine below_set ?_ GE484.out)|exact HB.out)));rintro e w86 ⟨rfl,hb⟩;have n0_:=A0_ (blk_below (g:=gb484) (o:=.cells #[.slice A0_0 l0_0.length c0_0,.int .i64 a0_1,.int .i64 a0_2,.int .i64 a0_3] 29 (0,0)) (bd_ BK484.out) hb);have n1_:=A0_ (below_step (by repeat (first|(with_reducible first|exact HB.out|apply below_alloc|apply pw_below_drewN|apply below_drew1|refine below_set ?_ GE484.out)|exact HB.out)) hb);clear BK484;clear HB;have BK484:=n0_;have HB:=n1_;clear n0_ n1_;(try clear hb);(try clear hb2);(try clear hk);(try clear hi)))
          go_ret
          exact ⟨y2_,(by repeat (first|(with_reducible first|exact HB.out|apply below_alloc|apply pw_below_drewN|apply below_drew1|refine below_set ?_ GE484.out)|exact HB.out))⟩
         ·rw [if_neg c73] at H
          have c73b0:(t492 == 0)=false:=beq_eq_false_iff_ne.mpr c73
          have c73b1:(t492 != 0)=true:=bne_iff_ne.mpr c73
          obtain rfl:=Option.some.inj H
          go_enter Tryz.func6,Tryz.ntmps6
          go_wp2_with (first|((with_reducible refine gate_dst (N:=3) rfl ?_);refine box_event ?hg (N:=3) ?hd (cs:=#[.slice A0_0 l0_0.length c0_0,.int .i64 a0_1,.int .i64 a0_2,.int .i64 a0_3]) (t:=29) ?hr ?_;(case hd=>rfl);(case hg=>rfl);(case hr=>first|(go_simp;done)|(go_simp;rfl));intro gb484 hg w87 hbox hb;have n0_:=A0_ (below_step y0_ hb);have n1_:=A0_ (hbox);have n2_:=A0_ ((by rw [hg];exact (below_size y0_):w.heap.size≤gb484));have n3_:=A0_ ((by rw [hg];exact (below_size y0_):w.heap.size≤gb484));clear HB;have HB:=n0_;have BK484:=n1_;have GW484:=n2_;have GE484:=n3_;clear n0_ n1_ n2_ n3_;clear hb hbox hg;obtain ⟨hcz88_0,hcz88_1,hcz88_2,hcz88_3,hfz88_0,hfz88_1,hfz88_2,hfz88_3⟩:=bq4_ BK484.out)|((with_reducible refine gate_callee (f:=17) rfl ?_);refine goesL_ (some 22) rfl rfl Tryz.func17 (by kernel_rfl) rfl #[.agg #[.slice A0_0 l0_0.length c0_0,.int .i64 a0_1,.int .i64 a0_2,.int .i64 a0_3]] rfl y1_ ?_;(with_reducible refine (tl_short.calls k _ _ l0_0 a0_1 a0_2 a0_3 true _ ?side1 ?side2 A4.out).mono ?_);(case side1=>repeat (first|exact (Kd.C_below HR0_0.out HB.out)|(with_reducible refine Kd.C_alloc ?_ _)|(with_reducible refine Kd.C_drewN ?_ _)|(with_reducible refine Kd.C_drew ?_)));(case side2=>exact HC0_0.out);rintro e w89 ⟨rfl,hb⟩;refine ⟨_,rfl,?_⟩;have n0_:=A0_ (blk_below (g:=gb484) (o:=.cells #[.slice A0_0 l0_0.length c0_0,.int .i64 a0_1,.int .i64 a0_2,.int .i64 a0_3] 29 (0,0)) (bd_ BK484.out) hb);have n1_:=A0_ (below_step (by repeat (first|(with_reducible first|exact HB.out|apply below_alloc|apply pw_below_drewN|apply below_drew1|refine below_set ?_ GE484.out)|exact HB.out)) hb);clear BK484;clear HB;have BK484:=n0_;have HB:=n1_;clear n0_ n1_;(try clear hb);(try clear hb2);(try clear hk);(try clear hi);obtain ⟨hcz90_0,hcz90_1,hcz90_2,hcz90_3,hfz90_0,hfz90_1,hfz90_2,hfz90_3⟩:=bq4_ BK484.out)|((with_reducible refine gate_callee (f:=32) rfl ?_);refine goesL_ (some 27) rfl rfl Tryz.func32 (by kernel_rfl) rfl #[.agg #[.slice A0_0 l0_0.length c0_0,.int .i64 a0_1,.int .i64 a0_2,.int .i64 a0_3]] rfl y1_ ?_;(with_reducible refine (sky_Month.calls k _ _ l0_0 a0_1 a0_2 a0_3 t487 t488 t489 _ ?side1 ?side2 A6.out).mono ?_);(case side1=>repeat (first|exact (Kd.C_below HR0_0.out HB.out)|(with_reducible refine Kd.C_alloc ?_ _)|(with_reducible refine Kd.C_drewN ?_ _)|(with_reducible refine Kd.C_drew ?_)));(case side2=>exact HC0_0.out);rintro e w91 ⟨rfl,hb⟩;refine ⟨_,rfl,?_⟩;have n0_:=A0_ (blk_below (g:=gb484) (o:=.cells #[.slice A0_0 l0_0.length c0_0,.int .i64 a0_1,.int .i64 a0_2,.int .i64 a0_3] 29 (0,0)) (bd_ BK484.out) hb);have n1_:=A0_ (below_step (by repeat (first|(with_reducible first|exact HB.out|apply below_alloc|apply pw_below_drewN|apply below_drew1|refine below_set ?_ GE484.out)|exact HB.out)) hb);clear BK484;clear HB;have BK484:=n0_;have HB:=n1_;clear n0_ n1_;(try clear hb);(try clear hb2);(try clear hk);(try clear hi);obtain ⟨hcz92_0,hcz92_1,hcz92_2,hcz92_3,hfz92_0,hfz92_1,hfz92_2,hfz92_3⟩:=bq4_ BK484.out)|((with_reducible refine gate_callee (f:=33) rfl ?_);refine goesL_ (some 34) rfl rfl Tryz.func33 (by kernel_rfl) rfl #[.agg #[.slice A0_0 l0_0.length c0_0,.int .i64 a0_1,.int .i64 a0_2,.int .i64 a0_3],.int .i64 a1] rfl y1_ ?_;(with_reducible refine (sky_Drift.calls k _ _ l0_0 a0_1 a0_2 a0_3 a1 t490 t491 _ ?side1 ?side2 A7.out).mono ?_);(case side1=>repeat (first|exact (Kd.C_below HR0_0.out HB.out)|(with_reducible refine Kd.C_alloc ?_ _)|(with_reducible refine Kd.C_drewN ?_ _)|(with_reducible refine Kd.C_drew ?_)));(case side2=>exact HC0_0.out);rintro e w93 ⟨rfl,hb⟩;refine ⟨_,rfl,?_⟩;have n0_:=A0_ (blk_below (g:=gb484) (o:=.cells #[.slice A0_0 l0_0.length c0_0,.int .i64 a0_1,.int .i64 a0_2,.int .i64 a0_3] 29 (0,0)) (bd_ BK484.out) hb);have n1_:=A0_ (below_step (by repeat (first|(with_reducible first|exact HB.out|apply below_alloc|apply pw_below_drewN|apply below_drew1|refine below_set ?_ GE484.out)|exact HB.out)) hb);clear BK484;clear HB;have BK484:=n0_;have HB:=n1_;clear n0_ n1_;(try clear hb);(try clear hb2);(try clear hk);(try clear hi);obtain ⟨hcz94_0,hcz94_1,hcz94_2,hcz94_3,hfz94_0,hfz94_1,hfz94_2,hfz94_3⟩:=bq4_ BK484.out)|((with_reducible refine gate_callee (f:=34) rfl ?_);refine goesL_ (some 40) rfl rfl Tryz.func34 (by kernel_rfl) rfl #[.agg #[.slice A0_0 l0_0.length c0_0,.int .i64 a0_1,.int .i64 a0_2,.int .i64 a0_3],.int .i64 a2] rfl y1_ ?_;(with_reducible refine (sky_Cycle.calls k _ _ l0_0 a0_1 a0_2 a0_3 a2 t492 t493 _ ?side1 ?side2 A8.out).mono ?_);(case side1=>repeat (first|exact (Kd.C_below HR0_0.out HB.out)|(with_reducible refine Kd.C_alloc ?_ _)|(with_reducible refine Kd.C_drewN ?_ _)|(with_reducible refine Kd.C_drew ?_)));(case side2=>exact HC0_0.out);rintro e w95 ⟨rfl,hb⟩;refine ⟨_,rfl,?_⟩;have n0_:=A0_ (blk_below (g:=gb484) (o:=.cells #[.slice A0_0 l0_0.length c0_0,.int .i64 a0_1,.int .i64 a0_2,.int .i64 a0_3] 29 (0,0)) (bd_ BK484.out) hb);have n1_:=A0_ (below_step (by repeat (first|(with_reducible first|exact HB.out|apply below_alloc|apply pw_below_drewN|apply below_drew1|refine below_set ?_ GE484.out)|exact HB.out)) hb);clear BK484;clear HB;have BK484:=n0_;have HB:=n1_;clear n0_ n1_;(try clear hb);(try clear hb2);(try clear hk);(try clear hi);obtain ⟨hcz96_0,hcz96_1,hcz96_2,hcz96_3,hfz96_0,hfz96_1,hfz96_2,hfz96_3⟩:=bq4_ BK484.out)|((with_reducible refine gate_callee (f:=14) rfl ?_);refine goesL_ (some 44) rfl rfl Tryz.func14 (by kernel_rfl) rfl #[.agg #[.slice A0_0 l0_0.length c0_0,.int .i64 a0_1,.int .i64 a0_2,.int .i64 a0_3]] rfl y1_ ?_;(with_reducible refine (tr_Sky.calls k _ _ l0_0 a0_1 a0_2 a0_3 false _ ?side1 ?side2 A9.out).mono ?_);(case side1=>repeat (first|exact (Kd.C_below HR0_0.out HB.out)|(with_reducible refine Kd.C_alloc ?_ _)|(with_reducible refine Kd.C_drewN ?_ _)|(with_reducible refine Kd.C_drew ?_)));(case side2=>exact HC0_0.out);rintro e w97 ⟨rfl,hb⟩;refine ⟨_,rfl,?_⟩;have n0_:=A0_ (blk_below (g:=gb484) (o:=.cells #[.slice A0_0 l0_0.length c0_0,.int .i64 a0_1,.int .i64 a0_2,.int .i64 a0_3] 29 (0,0)) (bd_ BK484.out) hb);have n1_:=A0_ (below_step (by repeat (first|(with_reducible first|exact HB.out|apply below_alloc|apply pw_below_drewN|apply below_drew1|refine below_set ?_ GE484.out)|exact HB.out)) hb);clear BK484;clear HB;have BK484:=n0_;have HB:=n1_;clear n0_ n1_;(try clear hb);(try clear hb2);(try clear hk);(try clear hi)))
          go_ret
          exact ⟨y2_,(by repeat (first|(with_reducible first|exact HB.out|apply below_alloc|apply pw_below_drewN|apply below_drew1|refine below_set ?_ GE484.out)|exact HB.out))⟩
        ·rw [if_neg c72] at H
         have c72b0:(t493 == 2)=false:=beq_eq_false_iff_ne.mpr c72
         have c72b1:(t493 != 2)=true:=bne_iff_ne.mpr c72
         obtain rfl:=Option.some.inj H
         go_enter Tryz.func6,Tryz.ntmps6
         go_wp2_with (first|((with_reducible refine gate_dst (N:=3) rfl ?_);refine box_event ?hg (N:=3) ?hd (cs:=#[.slice A0_0 l0_0.length c0_0,.int .i64 a0_1,.int .i64 a0_2,.int .i64 a0_3]) (t:=29) ?hr ?_;(case hd=>rfl);(case hg=>rfl);(case hr=>first|(go_simp;done)|(go_simp;rfl));intro gb484 hg w98 hbox hb;have n0_:=A0_ (below_step y0_ hb);have n1_:=A0_ (hbox);have n2_:=A0_ ((by rw [hg];exact (below_size y0_):w.heap.size≤gb484));have n3_:=A0_ ((by rw [hg];exact (below_size y0_):w.heap.size≤gb484));clear HB;have HB:=n0_;have BK484:=n1_;have GW484:=n2_;have GE484:=n3_;clear n0_ n1_ n2_ n3_;clear hb hbox hg;obtain ⟨hcz99_0,hcz99_1,hcz99_2,hcz99_3,hfz99_0,hfz99_1,hfz99_2,hfz99_3⟩:=bq4_ BK484.out)|((with_reducible refine gate_callee (f:=17) rfl ?_);refine goesL_ (some 22) rfl rfl Tryz.func17 (by kernel_rfl) rfl #[.agg #[.slice A0_0 l0_0.length c0_0,.int .i64 a0_1,.int .i64 a0_2,.int .i64 a0_3]] rfl y1_ ?_;(with_reducible refine (tl_short.calls k _ _ l0_0 a0_1 a0_2 a0_3 true _ ?side1 ?side2 A4.out).mono ?_);(case side1=>repeat (first|exact (Kd.C_below HR0_0.out HB.out)|(with_reducible refine Kd.C_alloc ?_ _)|(with_reducible refine Kd.C_drewN ?_ _)|(with_reducible refine Kd.C_drew ?_)));(case side2=>exact HC0_0.out);rintro e w100 ⟨rfl,hb⟩;refine ⟨_,rfl,?_⟩;have n0_:=A0_ (blk_below (g:=gb484) (o:=.cells #[.slice A0_0 l0_0.length c0_0,.int .i64 a0_1,.int .i64 a0_2,.int .i64 a0_3] 29 (0,0)) (bd_ BK484.out) hb);have n1_:=A0_ (below_step (by repeat (first|(with_reducible first|exact HB.out|apply below_alloc|apply pw_below_drewN|apply below_drew1|refine below_set ?_ GE484.out)|exact HB.out)) hb);clear BK484;clear HB;have BK484:=n0_;have HB:=n1_;clear n0_ n1_;(try clear hb);(try clear hb2);(try clear hk);(try clear hi);obtain ⟨hcz101_0,hcz101_1,hcz101_2,hcz101_3,hfz101_0,hfz101_1,hfz101_2,hfz101_3⟩:=bq4_ BK484.out)|((with_reducible refine gate_callee (f:=32) rfl ?_);refine goesL_ (some 27) rfl rfl Tryz.func32 (by kernel_rfl) rfl #[.agg #[.slice A0_0 l0_0.length c0_0,.int .i64 a0_1,.int .i64 a0_2,.int .i64 a0_3]] rfl y1_ ?_;(with_reducible refine (sky_Month.calls k _ _ l0_0 a0_1 a0_2 a0_3 t487 t488 t489 _ ?side1 ?side2 A6.out).mono ?_);(case side1=>repeat (first|exact (Kd.C_below HR0_0.out HB.out)|(with_reducible refine Kd.C_alloc ?_ _)|(with_reducible refine Kd.C_drewN ?_ _)|(with_reducible refine Kd.C_drew ?_)));(case side2=>exact HC0_0.out);rintro e w102 ⟨rfl,hb⟩;refine ⟨_,rfl,?_⟩;have n0_:=A0_ (blk_below (g:=gb484) (o:=.cells #[.slice A0_0 l0_0.length c0_0,.int .i64 a0_1,.int .i64 a0_2,.int .i64 a0_3] 29 (0,0)) (bd_ BK484.out) hb);have n1_:=A0_ (below_step (by repeat (first|(with_reducible first|exact HB.out|apply below_alloc|apply pw_below_drewN|apply below_drew1|refine below_set ?_ GE484.out)|exact HB.out)) hb);clear BK484;clear HB;have BK484:=n0_;have HB:=n1_;clear n0_ n1_;(try clear hb);(try clear hb2);(try clear hk);(try clear hi);obtain ⟨hcz103_0,hcz103_1,hcz103_2,hcz103_3,hfz103_0,hfz103_1,hfz103_2,hfz103_3⟩:=bq4_ BK484.out)|((with_reducible refine gate_callee (f:=33) rfl ?_);refine goesL_ (some 34) rfl rfl Tryz.func33 (by kernel_rfl) rfl #[.agg #[.slice A0_0 l0_0.length c0_0,.int .i64 a0_1,.int .i64 a0_2,.int .i64 a0_3],.int .i64 a1] rfl y1_ ?_;(with_reducible refine (sky_Drift.calls k _ _ l0_0 a0_1 a0_2 a0_3 a1 t490 t491 _ ?side1 ?side2 A7.out).mono ?_);(case side1=>repeat (first|exact (Kd.C_below HR0_0.out HB.out)|(with_reducible refine Kd.C_alloc ?_ _)|(with_reducible refine Kd.C_drewN ?_ _)|(with_reducible refine Kd.C_drew ?_)));(case side2=>exact HC0_0.out);rintro e w104 ⟨rfl,hb⟩;refine ⟨_,rfl,?_⟩;have n0_:=A0_ (blk_below (g:=gb484) (o:=.cells #[.slice A0_0 l0_0.length c0_0,.int .i64 a0_1,.int .i64 a0_2,.int .i64 a0_3] 29 (0,0)) (bd_ BK484.out) hb);have n1_:=A0_ (below_step (by repeat (first|(with_reducible first|exact HB.out|apply below_alloc|apply pw_below_drewN|apply below_drew1|refine below_set ?_ GE484.out)|exact HB.out)) hb);clear BK484;clear HB;have BK484:=n0_;have HB:=n1_;clear n0_ n1_;(try clear hb);(try clear hb2);(try clear hk);(try clear hi);obtain ⟨hcz105_0,hcz105_1,hcz105_2,hcz105_3,hfz105_0,hfz105_1,hfz105_2,hfz105_3⟩:=bq4_ BK484.out)|((with_reducible refine gate_callee (f:=34) rfl ?_);refine goesL_ (some 40) rfl rfl Tryz.func34 (by kernel_rfl) rfl #[.agg #[.slice A0_0 l0_0.length c0_0,.int .i64 a0_1,.int .i64 a0_2,.int .i64 a0_3],.int .i64 a2] rfl y1_ ?_;(with_reducible refine (sky_Cycle.calls k _ _ l0_0 a0_1 a0_2 a0_3 a2 t492 t493 _ ?side1 ?side2 A8.out).mono ?_);(case side1=>repeat (first|exact (Kd.C_below HR0_0.out HB.out)|(with_reducible refine Kd.C_alloc ?_ _)|(with_reducible refine Kd.C_drewN ?_ _)|(with_reducible refine Kd.C_drew ?_)));(case side2=>exact HC0_0.out);rintro e w106 ⟨rfl,hb⟩;refine ⟨_,rfl,?_⟩;have n0_:=A0_ (blk_below (g:=gb484) (o:=.cells #[.slice A0_0 l0_0.length c0_0,.int .i64 a0_1,.int .i64 a0_2,.int .i64 a0_3] 29 (0,0)) (bd_ BK484.out) hb);have n1_:=A0_ (below_step (by repeat (first|(with_reducible first|exact HB.out|apply below_alloc|apply pw_below_drewN|apply below_drew1|refine below_set ?_ GE484.out)|exact HB.out)) hb);clear BK484;clear HB;have BK484:=n0_;have HB:=n1_;clear n0_ n1_;(try clear hb);(try clear hb2);(try clear hk);(try clear hi);obtain ⟨hcz107_0,hcz107_1,hcz107_2,hcz107_3,hfz107_0,hfz107_1,hfz107_2,hfz107_3⟩:=bq4_ BK484.out)|((with_reducible refine gate_callee (f:=14) rfl ?_);refine goesL_ (some 44) rfl rfl Tryz.func14 (by kernel_rfl) rfl #[.agg #[.slice A0_0 l0_0.length c0_0,.int .i64 a0_1,.int .i64 a0_2,.int .i64 a0_3]] rfl y1_ ?_;(with_reducible refine (tr_Sky.calls k _ _ l0_0 a0_1 a0_2 a0_3 false _ ?side1 ?side2 A9.out).mono ?_);(case side1=>repeat (first|exact (Kd.C_below HR0_0.out HB.out)|(with_reducible refine Kd.C_alloc ?_ _)|(with_reducible refine Kd.C_drewN ?_ _)|(with_reducible refine Kd.C_drew ?_)));(case side2=>exact HC0_0.out);rintro e w108 ⟨rfl,hb⟩;refine ⟨_,rfl,?_⟩;have n0_:=A0_ (blk_below (g:=gb484) (o:=.cells #[.slice A0_0 l0_0.length c0_0,.int .i64 a0_1,.int .i64 a0_2,.int .i64 a0_3] 29 (0,0)) (bd_ BK484.out) hb);have n1_:=A0_ (below_step (by repeat (first|(with_reducible first|exact HB.out|apply below_alloc|apply pw_below_drewN|apply below_drew1|refine below_set ?_ GE484.out)|exact HB.out)) hb);clear BK484;clear HB;have BK484:=n0_;have HB:=n1_;clear n0_ n1_;(try clear hb);(try clear hb2);(try clear hk);(try clear hi)))
         go_ret
         exact ⟨y2_,(by repeat (first|(with_reducible first|exact HB.out|apply below_alloc|apply pw_below_drewN|apply below_drew1|refine below_set ?_ GE484.out)|exact HB.out))⟩
       ·rw [if_neg c71] at H
        have c71b0:(t490 == 0)=false:=beq_eq_false_iff_ne.mpr c71
        have c71b1:(t490 != 0)=true:=bne_iff_ne.mpr c71
        obtain rfl:=Option.some.inj H
        go_enter Tryz.func6,Tryz.ntmps6
        go_wp2_with (first|((with_reducible refine gate_dst (N:=3) rfl ?_);refine box_event ?hg (N:=3) ?hd (cs:=#[.slice A0_0 l0_0.length c0_0,.int .i64 a0_1,.int .i64 a0_2,.int .i64 a0_3]) (t:=29) ?hr ?_;(case hd=>rfl);(case hg=>rfl);(case hr=>first|(go_simp;done)|(go_simp;rfl));intro gb484 hg w109 hbox hb;have n0_:=A0_ (below_step y0_ hb);have n1_:=A0_ (hbox);have n2_:=A0_ ((by rw [hg];exact (below_size y0_):w.heap.size≤gb484));have n3_:=A0_ ((by rw [hg];exact (below_size y0_):w.heap.size≤gb484));clear HB;have HB:=n0_;have BK484:=n1_;have GW484:=n2_;have GE484:=n3_;clear n0_ n1_ n2_ n3_;clear hb hbox hg;obtain ⟨hcz110_0,hcz110_1,hcz110_2,hcz110_3,hfz110_0,hfz110_1,hfz110_2,hfz110_3⟩:=bq4_ BK484.out)|((with_reducible refine gate_callee (f:=17) rfl ?_);refine goesL_ (some 22) rfl rfl Tryz.func17 (by kernel_rfl) rfl #[.agg #[.slice A0_0 l0_0.length c0_0,.int .i64 a0_1,.int .i64 a0_2,.int .i64 a0_3]] rfl y1_ ?_;(with_reducible refine (tl_short.calls k _ _ l0_0 a0_1 a0_2 a0_3 true _ ?side1 ?side2 A4.out).mono ?_);(case side1=>repeat (first|exact (Kd.C_below HR0_0.out HB.out)|(with_reducible refine Kd.C_alloc ?_ _)|(with_reducible refine Kd.C_drewN ?_ _)|(with_reducible refine Kd.C_drew ?_)));(case side2=>exact HC0_0.out);rintro e w111 ⟨rfl,hb⟩;refine ⟨_,rfl,?_⟩;have n0_:=A0_ (blk_below (g:=gb484) (o:=.cells #[.slice A0_0 l0_0.length c0_0,.int .i64 a0_1,.int .i64 a0_2,.int .i64 a0_3] 29 (0,0)) (bd_ BK484.out) hb);have n1_:=A0_ (below_step (by repeat (first|(with_reducible first|exact HB.out|apply below_alloc|apply pw_below_drewN|apply below_drew1|refine below_set ?_ GE484.out)|exact HB.out)) hb);clear BK484;clear HB;have BK484:=n0_;have HB:=n1_;clear n0_ n1_;(try clear hb);(try clear hb2);(try clear hk);(try clear hi);obtain ⟨hcz112_0,hcz112_1,hcz112_2,hcz112_3,hfz112_0,hfz112_1,hfz112_2,hfz112_3⟩:=bq4_ BK484.out)|((with_reducible refine gate_callee (f:=32) rfl ?_);refine goesL_ (some 27) rfl rfl Tryz.func32 (by kernel_rfl) rfl #[.agg #[.slice A0_0 l0_0.length c0_0,.int .i64 a0_1,.int .i64 a0_2,.int .i64 a0_3]] rfl y1_ ?_;(with_reducible refine (sky_Month.calls k _ _ l0_0 a0_1 a0_2 a0_3 t487 t488 t489 _ ?side1 ?side2 A6.out).mono ?_);(case side1=>repeat (first|exact (Kd.C_below HR0_0.out HB.out)|(with_reducible refine Kd.C_alloc ?_ _)|(with_reducible refine Kd.C_drewN ?_ _)|(with_reducible refine Kd.C_drew ?_)));(case side2=>exact HC0_0.out);rintro e w113 ⟨rfl,hb⟩;refine ⟨_,rfl,?_⟩;have n0_:=A0_ (blk_below (g:=gb484) (o:=.cells #[.slice A0_0 l0_0.length c0_0,.int .i64 a0_1,.int .i64 a0_2,.int .i64 a0_3] 29 (0,0)) (bd_ BK484.out) hb);have n1_:=A0_ (below_step (by repeat (first|(with_reducible first|exact HB.out|apply below_alloc|apply pw_below_drewN|apply below_drew1|refine below_set ?_ GE484.out)|exact HB.out)) hb);clear BK484;clear HB;have BK484:=n0_;have HB:=n1_;clear n0_ n1_;(try clear hb);(try clear hb2);(try clear hk);(try clear hi);obtain ⟨hcz114_0,hcz114_1,hcz114_2,hcz114_3,hfz114_0,hfz114_1,hfz114_2,hfz114_3⟩:=bq4_ BK484.out)|((with_reducible refine gate_callee (f:=33) rfl ?_);refine goesL_ (some 34) rfl rfl Tryz.func33 (by kernel_rfl) rfl #[.agg #[.slice A0_0 l0_0.length c0_0,.int .i64 a0_1,.int .i64 a0_2,.int .i64 a0_3],.int .i64 a1] rfl y1_ ?_;(with_reducible refine (sky_Drift.calls k _ _ l0_0 a0_1 a0_2 a0_3 a1 t490 t491 _ ?side1 ?side2 A7.out).mono ?_);(case side1=>repeat (first|exact (Kd.C_below HR0_0.out HB.out)|(with_reducible refine Kd.C_alloc ?_ _)|(with_reducible refine Kd.C_drewN ?_ _)|(with_reducible refine Kd.C_drew ?_)));(case side2=>exact HC0_0.out);rintro e w115 ⟨rfl,hb⟩;refine ⟨_,rfl,?_⟩;have n0_:=A0_ (blk_below (g:=gb484) (o:=.cells #[.slice A0_0 l0_0.length c0_0,.int .i64 a0_1,.int .i64 a0_2,.int .i64 a0_3] 29 (0,0)) (bd_ BK484.out) hb);have n1_:=A0_ (below_step (by repeat (first|(with_reducible first|exact HB.out|apply below_alloc|apply pw_below_drewN|apply below_drew1|refine below_set ?_ GE484.out)|exact HB.out)) hb);clear BK484;clear HB;have BK484:=n0_;have HB:=n1_;clear n0_ n1_;(try clear hb);(try clear hb2);(try clear hk);(try clear hi);obtain ⟨hcz116_0,hcz116_1,hcz116_2,hcz116_3,hfz116_0,hfz116_1,hfz116_2,hfz116_3⟩:=bq4_ BK484.out)|((with_reducible refine gate_callee (f:=34) rfl ?_);refine goesL_ (some 40) rfl rfl Tryz.func34 (by kernel_rfl) rfl #[.agg #[.slice A0_0 l0_0.length c0_0,.int .i64 a0_1,.int .i64 a0_2,.int .i64 a0_3],.int .i64 a2] rfl y1_ ?_;(with_reducible refine (sky_Cycle.calls k _ _ l0_0 a0_1 a0_2 a0_3 a2 t492 t493 _ ?side1 ?side2 A8.out).mono ?_);(case side1=>repeat (first|exact (Kd.C_below HR0_0.out HB.out)|(with_reducible refine Kd.C_alloc ?_ _)|(with_reducible refine Kd.C_drewN ?_ _)|(with_reducible refine Kd.C_drew ?_)));(case side2=>exact HC0_0.out);rintro e w117 ⟨rfl,hb⟩;refine ⟨_,rfl,?_⟩;have n0_:=A0_ (blk_below (g:=gb484) (o:=.cells #[.slice A0_0 l0_0.length c0_0,.int .i64 a0_1,.int .i64 a0_2,.int .i64 a0_3] 29 (0,0)) (bd_ BK484.out) hb);have n1_:=A0_ (below_step (by repeat (first|(with_reducible first|exact HB.out|apply below_alloc|apply pw_below_drewN|apply below_drew1|refine below_set ?_ GE484.out)|exact HB.out)) hb);clear BK484;clear HB;have BK484:=n0_;have HB:=n1_;clear n0_ n1_;(try clear hb);(try clear hb2);(try clear hk);(try clear hi);obtain ⟨hcz118_0,hcz118_1,hcz118_2,hcz118_3,hfz118_0,hfz118_1,hfz118_2,hfz118_3⟩:=bq4_ BK484.out)|((with_reducible refine gate_callee (f:=14) rfl ?_);refine goesL_ (some 44) rfl rfl Tryz.func14 (by kernel_rfl) rfl #[.agg #[.slice A0_0 l0_0.length c0_0,.int .i64 a0_1,.int .i64 a0_2,.int .i64 a0_3]] rfl y1_ ?_;(with_reducible refine (tr_Sky.calls k _ _ l0_0 a0_1 a0_2 a0_3 false _ ?side1 ?side2 A9.out).mono ?_);(case side1=>repeat (first|exact (Kd.C_below HR0_0.out HB.out)|(with_reducible refine Kd.C_alloc ?_ _)|(with_reducible refine Kd.C_drewN ?_ _)|(with_reducible refine Kd.C_drew ?_)));(case side2=>exact HC0_0.out);rintro e w119 ⟨rfl,hb⟩;refine ⟨_,rfl,?_⟩;have n0_:=A0_ (blk_below (g:=gb484) (o:=.cells #[.slice A0_0 l0_0.length c0_0,.int .i64 a0_1,.int .i64 a0_2,.int .i64 a0_3] 29 (0,0)) (bd_ BK484.out) hb);have n1_:=A0_ (below_step (by repeat (first|(with_reducible first|exact HB.out|apply below_alloc|apply pw_below_drewN|apply below_drew1|refine below_set ?_ GE484.out)|exact HB.out)) hb);clear BK484;clear HB;have BK484:=n0_;have HB:=n1_;clear n0_ n1_;(try clear hb);(try clear hb2);(try clear hk);(try clear hi)))
        go_ret
        exact ⟨y2_,(by repeat (first|(with_reducible first|exact HB.out|apply below_alloc|apply pw_below_drewN|apply below_drew1|refine below_set ?_ GE484.out)|exact HB.out))⟩
      ·rw [if_neg c70] at H
       have c70b0:(t491 == 2)=false:=beq_eq_false_iff_ne.mpr c70
       have c70b1:(t491 != 2)=true:=bne_iff_ne.mpr c70
       obtain rfl:=Option.some.inj H
       go_enter Tryz.func6,Tryz.ntmps6
       go_wp2_with (first|((with_reducible refine gate_dst (N:=3) rfl ?_);refine box_event ?hg (N:=3) ?hd (cs:=#[.slice A0_0 l0_0.length c0_0,.int .i64 a0_1,.int .i64 a0_2,.int .i64 a0_3]) (t:=29) ?hr ?_;(case hd=>rfl);(case hg=>rfl);(case hr=>first|(go_simp;done)|(go_simp;rfl));intro gb484 hg w120 hbox hb;have n0_:=A0_ (below_step y0_ hb);have n1_:=A0_ (hbox);have n2_:=A0_ ((by rw [hg];exact (below_size y0_):w.heap.size≤gb484));have n3_:=A0_ ((by rw [hg];exact (below_size y0_):w.heap.size≤gb484));clear HB;have HB:=n0_;have BK484:=n1_;have GW484:=n2_;have GE484:=n3_;clear n0_ n1_ n2_ n3_;clear hb hbox hg;obtain ⟨hcz121_0,hcz121_1,hcz121_2,hcz121_3,hfz121_0,hfz121_1,hfz121_2,hfz121_3⟩:=bq4_ BK484.out)|((with_reducible refine gate_callee (f:=17) rfl ?_);refine goesL_ (some 22) rfl rfl Tryz.func17 (by kernel_rfl) rfl #[.agg #[.slice A0_0 l0_0.length c0_0,.int .i64 a0_1,.int .i64 a0_2,.int .i64 a0_3]] rfl y1_ ?_;(with_reducible refine (tl_short.calls k _ _ l0_0 a0_1 a0_2 a0_3 true _ ?side1 ?side2 A4.out).mono ?_);(case side1=>repeat (first|exact (Kd.C_below HR0_0.out HB.out)|(with_reducible refine Kd.C_alloc ?_ _)|(with_reducible refine Kd.C_drewN ?_ _)|(with_reducible refine Kd.C_drew ?_)));(case side2=>exact HC0_0.out);rintro e w122 ⟨rfl,hb⟩;refine ⟨_,rfl,?_⟩;have n0_:=A0_ (blk_below (g:=gb484) (o:=.cells #[.slice A0_0 l0_0.length c0_0,.int .i64 a0_1,.int .i64 a0_2,.int .i64 a0_3] 29 (0,0)) (bd_ BK484.out) hb);have n1_:=A0_ (below_step (by repeat (first|(with_reducible first|exact HB.out|apply below_alloc|apply pw_below_drewN|apply below_drew1|refine below_set ?_ GE484.out)|exact HB.out)) hb);clear BK484;clear HB;have BK484:=n0_;have HB:=n1_;clear n0_ n1_;(try clear hb);(try clear hb2);(try clear hk);(try clear hi);obtain ⟨hcz123_0,hcz123_1,hcz123_2,hcz123_3,hfz123_0,hfz123_1,hfz123_2,hfz123_3⟩:=bq4_ BK484.out)|((with_reducible refine gate_callee (f:=32) rfl ?_);refine goesL_ (some 27) rfl rfl Tryz.func32 (by kernel_rfl) rfl #[.agg #[.slice A0_0 l0_0.length c0_0,.int .i64 a0_1,.int .i64 a0_2,.int .i64 a0_3]] rfl y1_ ?_;(with_reducible refine (sky_Month.calls k _ _ l0_0 a0_1 a0_2 a0_3 t487 t488 t489 _ ?side1 ?side2 A6.out).mono ?_);(case side1=>repeat (first|exact (Kd.C_below HR0_0.out HB.out)|(with_reducible refine Kd.C_alloc ?_ _)|(with_reducible refine Kd.C_drewN ?_ _)|(with_reducible refine Kd.C_drew ?_)));(case side2=>exact HC0_0.out);rintro e w124 ⟨rfl,hb⟩;refine ⟨_,rfl,?_⟩;have n0_:=A0_ (blk_below (g:=gb484) (o:=.cells #[.slice A0_0 l0_0.length c0_0,.int .i64 a0_1,.int .i64 a0_2,.int .i64 a0_3] 29 (0,0)) (bd_ BK484.out) hb);have n1_:=A0_ (below_step (by repeat (first|(with_reducible first|exact HB.out|apply below_alloc|apply pw_below_drewN|apply below_drew1|refine below_set ?_ GE484.out)|exact HB.out)) hb);clear BK484;clear HB;have BK484:=n0_;have HB:=n1_;clear n0_ n1_;(try clear hb);(try clear hb2);(try clear hk);(try clear hi);obtain ⟨hcz125_0,hcz125_1,hcz125_2,hcz125_3,hfz125_0,hfz125_1,hfz125_2,hfz125_3⟩:=bq4_ BK484.out)|((with_reducible refine gate_callee (f:=33) rfl ?_);refine goesL_ (some 34) rfl rfl Tryz.func33 (by kernel_rfl) rfl #[.agg #[.slice A0_0 l0_0.length c0_0,.int .i64 a0_1,.int .i64 a0_2,.int .i64 a0_3],.int .i64 a1] rfl y1_ ?_;(with_reducible refine (sky_Drift.calls k _ _ l0_0 a0_1 a0_2 a0_3 a1 t490 t491 _ ?side1 ?side2 A7.out).mono ?_);(case side1=>repeat (first|exact (Kd.C_below HR0_0.out HB.out)|(with_reducible refine Kd.C_alloc ?_ _)|(with_reducible refine Kd.C_drewN ?_ _)|(with_reducible refine Kd.C_drew ?_)));(case side2=>exact HC0_0.out);rintro e w126 ⟨rfl,hb⟩;refine ⟨_,rfl,?_⟩;have n0_:=A0_ (blk_below (g:=gb484) (o:=.cells #[.slice A0_0 l0_0.length c0_0,.int .i64 a0_1,.int .i64 a0_2,.int .i64 a0_3] 29 (0,0)) (bd_ BK484.out) hb);have n1_:=A0_ (below_step (by repeat (first|(with_reducible first|exact HB.out|apply below_alloc|apply pw_below_drewN|apply below_drew1|refine below_set ?_ GE484.out)|exact HB.out)) hb);clear BK484;clear HB;have BK484:=n0_;have HB:=n1_;clear n0_ n1_;(try clear hb);(try clear hb2);(try clear hk);(try clear hi);obtain ⟨hcz127_0,hcz127_1,hcz127_2,hcz127_3,hfz127_0,hfz127_1,hfz127_2,hfz127_3⟩:=bq4_ BK484.out)|((with_reducible refine gate_callee (f:=34) rfl ?_);refine goesL_ (some 40) rfl rfl Tryz.func34 (by kernel_rfl) rfl #[.agg #[.slice A0_0 l0_0.length c0_0,.int .i64 a0_1,.int .i64 a0_2,.int .i64 a0_3],.int .i64 a2] rfl y1_ ?_;(with_reducible refine (sky_Cycle.calls k _ _ l0_0 a0_1 a0_2 a0_3 a2 t492 t493 _ ?side1 ?side2 A8.out).mono ?_);(case side1=>repeat (first|exact (Kd.C_below HR0_0.out HB.out)|(with_reducible refine Kd.C_alloc ?_ _)|(with_reducible refine Kd.C_drewN ?_ _)|(with_reducible refine Kd.C_drew ?_)));(case side2=>exact HC0_0.out);rintro e w128 ⟨rfl,hb⟩;refine ⟨_,rfl,?_⟩;have n0_:=A0_ (blk_below (g:=gb484) (o:=.cells #[.slice A0_0 l0_0.length c0_0,.int .i64 a0_1,.int .i64 a0_2,.int .i64 a0_3] 29 (0,0)) (bd_ BK484.out) hb);have n1_:=A0_ (below_step (by repeat (first|(with_reducible first|exact HB.out|apply below_alloc|apply pw_below_drewN|apply below_drew1|refine below_set ?_ GE484.out)|exact HB.out)) hb);clear BK484;clear HB;have BK484:=n0_;have HB:=n1_;clear n0_ n1_;(try clear hb);(try clear hb2);(try clear hk);(try clear hi);obtain ⟨hcz129_0,hcz129_1,hcz129_2,hcz129_3,hfz129_0,hfz129_1,hfz129_2,hfz129_3⟩:=bq4_ BK484.out)|((with_reducible refine gate_callee (f:=14) rfl ?_);refine goesL_ (some 44) rfl rfl Tryz.func14 (by kernel_rfl) rfl #[.agg #[.slice A0_0 l0_0.length c0_0,.int .i64 a0_1,.int .i64 a0_2,.int .i64 a0_3]] rfl y1_ ?_;(with_reducible refine (tr_Sky.calls k _ _ l0_0 a0_1 a0_2 a0_3 false _ ?side1 ?side2 A9.out).mono ?_);(case side1=>repeat (first|exact (Kd.C_below HR0_0.out HB.out)|(with_reducible refine Kd.C_alloc ?_ _)|(with_reducible refine Kd.C_drewN ?_ _)|(with_reducible refine Kd.C_drew ?_)));(case side2=>exact HC0_0.out);rintro e w130 ⟨rfl,hb⟩;refine ⟨_,rfl,?_⟩;have n0_:=A0_ (blk_below (g:=gb484) (o:=.cells #[.slice A0_0 l0_0.length c0_0,.int .i64 a0_1,.int .i64 a0_2,.int .i64 a0_3] 29 (0,0)) (bd_ BK484.out) hb);have n1_:=A0_ (below_step (by repeat (first|(with_reducible first|exact HB.out|apply below_alloc|apply pw_below_drewN|apply below_drew1|refine below_set ?_ GE484.out)|exact HB.out)) hb);clear BK484;clear HB;have BK484:=n0_;have HB:=n1_;clear n0_ n1_;(try clear hb);(try clear hb2);(try clear hk);(try clear hi)))
       go_ret
       exact ⟨y2_,(by repeat (first|(with_reducible first|exact HB.out|apply below_alloc|apply pw_below_drewN|apply below_drew1|refine below_set ?_ GE484.out)|exact HB.out))⟩
     ·rw [if_neg c69] at H
      have c69b0:(t488 == 0)=false:=beq_eq_false_iff_ne.mpr c69
      have c69b1:(t488 != 0)=true:=bne_iff_ne.mpr c69
      obtain rfl:=Option.some.inj H
      go_enter Tryz.func6,Tryz.ntmps6
      go_wp2_with (first|((with_reducible refine gate_dst (N:=3) rfl ?_);refine box_event ?hg (N:=3) ?hd (cs:=#[.slice A0_0 l0_0.length c0_0,.int .i64 a0_1,.int .i64 a0_2,.int .i64 a0_3]) (t:=29) ?hr ?_;(case hd=>rfl);(case hg=>rfl);(case hr=>first|(go_simp;done)|(go_simp;rfl));intro gb484 hg w131 hbox hb;have n0_:=A0_ (below_step y0_ hb);have n1_:=A0_ (hbox);have n2_:=A0_ ((by rw [hg];exact (below_size y0_):w.heap.size≤gb484));have n3_:=A0_ ((by rw [hg];exact (below_size y0_):w.heap.size≤gb484));clear HB;have HB:=n0_;have BK484:=n1_;have GW484:=n2_;have GE484:=n3_;clear n0_ n1_ n2_ n3_;clear hb hbox hg;obtain ⟨hcz132_0,hcz132_1,hcz132_2,hcz132_3,hfz132_0,hfz132_1,hfz132_2,hfz132_3⟩:=bq4_ BK484.out)|((with_reducible refine gate_callee (f:=17) rfl ?_);refine goesL_ (some 22) rfl rfl Tryz.func17 (by kernel_rfl) rfl #[.agg #[.slice A0_0 l0_0.length c0_0,.int .i64 a0_1,.int .i64 a0_2,.int .i64 a0_3]] rfl y1_ ?_;(with_reducible refine (tl_short.calls k _ _ l0_0 a0_1 a0_2 a0_3 true _ ?side1 ?side2 A4.out).mono ?_);(case side1=>repeat (first|exact (Kd.C_below HR0_0.out HB.out)|(with_reducible refine Kd.C_alloc ?_ _)|(with_reducible refine Kd.C_drewN ?_ _)|(with_reducible refine Kd.C_drew ?_)));(case side2=>exact HC0_0.out);rintro e w133 ⟨rfl,hb⟩;refine ⟨_,rfl,?_⟩;have n0_:=A0_ (blk_below (g:=gb484) (o:=.cells #[.slice A0_0 l0_0.length c0_0,.int .i64 a0_1,.int .i64 a0_2,.int .i64 a0_3] 29 (0,0)) (bd_ BK484.out) hb);have n1_:=A0_ (below_step (by repeat (first|(with_reducible first|exact HB.out|apply below_alloc|apply pw_below_drewN|apply below_drew1|refine below_set ?_ GE484.out)|exact HB.out)) hb);clear BK484;clear HB;have BK484:=n0_;have HB:=n1_;clear n0_ n1_;(try clear hb);(try clear hb2);(try clear hk);(try clear hi);obtain ⟨hcz134_0,hcz134_1,hcz134_2,hcz134_3,hfz134_0,hfz134_1,hfz134_2,hfz134_3⟩:=bq4_ BK484.out)|((with_reducible refine gate_callee (f:=32) rfl ?_);refine goesL_ (some 27) rfl rfl Tryz.func32 (by kernel_rfl) rfl #[.agg #[.slice A0_0 l0_0.length c0_0,.int .i64 a0_1,.int .i64 a0_2,.int .i64 a0_3]] rfl y1_ ?_;(with_reducible refine (sky_Month.calls k _ _ l0_0 a0_1 a0_2 a0_3 t487 t488 t489 _ ?side1 ?side2 A6.out).mono ?_);(case side1=>repeat (first|exact (Kd.C_below HR0_0.out HB.out)|(with_reducible refine Kd.C_alloc ?_ _)|(with_reducible refine Kd.C_drewN ?_ _)|(with_reducible refine Kd.C_drew ?_)));(case side2=>exact HC0_0.out);rintro e w135 ⟨rfl,hb⟩;refine ⟨_,rfl,?_⟩;have n0_:=A0_ (blk_below (g:=gb484) (o:=.cells #[.slice A0_0 l0_0.length c0_0,.int .i64 a0_1,.int .i64 a0_2,.int .i64 a0_3] 29 (0,0)) (bd_ BK484.out) hb);have n1_:=A0_ (below_step (by repeat (first|(with_reducible first|exact HB.out|apply below_alloc|apply pw_below_drewN|apply below_drew1|refine below_set ?_ GE484.out)|exact HB.out)) hb);clear BK484;clear HB;have BK484:=n0_;have HB:=n1_;clear n0_ n1_;(try clear hb);(try clear hb2);(try clear hk);(try clear hi);obtain ⟨hcz136_0,hcz136_1,hcz136_2,hcz136_3,hfz136_0,hfz136_1,hfz136_2,hfz136_3⟩:=bq4_ BK484.out)|((with_reducible refine gate_callee (f:=33) rfl ?_);refine goesL_ (some 34) rfl rfl Tryz.func33 (by kernel_rfl) rfl #[.agg #[.slice A0_0 l0_0.length c0_0,.int .i64 a0_1,.int .i64 a0_2,.int .i64 a0_3],.int .i64 a1] rfl y1_ ?_;(with_reducible refine (sky_Drift.calls k _ _ l0_0 a0_1 a0_2 a0_3 a1 t490 t491 _ ?side1 ?side2 A7.out).mono ?_);(case side1=>repeat (first|exact (Kd.C_below HR0_0.out HB.out)|(with_reducible refine Kd.C_alloc ?_ _)|(with_reducible refine Kd.C_drewN ?_ _)|(with_reducible refine Kd.C_drew ?_)));(case side2=>exact HC0_0.out);rintro e w137 ⟨rfl,hb⟩;refine ⟨_,rfl,?_⟩;have n0_:=A0_ (blk_below (g:=gb484) (o:=.cells #[.slice A0_0 l0_0.length c0_0,.int .i64 a0_1,.int .i64 a0_2,.int .i64 a0_3] 29 (0,0)) (bd_ BK484.out) hb);have n1_:=A0_ (below_step (by repeat (first|(with_reducible first|exact HB.out|apply below_alloc|apply pw_below_drewN|apply below_drew1|refine below_set ?_ GE484.out)|exact HB.out)) hb);clear BK484;clear HB;have BK484:=n0_;have HB:=n1_;clear n0_ n1_;(try clear hb);(try clear hb2);(try clear hk);(try clear hi);obtain ⟨hcz138_0,hcz138_1,hcz138_2,hcz138_3,hfz138_0,hfz138_1,hfz138_2,hfz138_3⟩:=bq4_ BK484.out)|((with_reducible refine gate_callee (f:=34) rfl ?_);refine goesL_ (some 40) rfl rfl Tryz.func34 (by kernel_rfl) rfl #[.agg #[.slice A0_0 l0_0.length c0_0,.int .i64 a0_1,.int .i64 a0_2,.int .i64 a0_3],.int .i64 a2] rfl y1_ ?_;(with_reducible refine (sky_Cycle.calls k _ _ l0_0 a0_1 a0_2 a0_3 a2 t492 t493 _ ?side1 ?side2 A8.out).mono ?_);(case side1=>repeat (first|exact (Kd.C_below HR0_0.out HB.out)|(with_reducible refine Kd.C_alloc ?_ _)|(with_reducible refine Kd.C_drewN ?_ _)|(with_reducible refine Kd.C_drew ?_)));(case side2=>exact HC0_0.out);rintro e w139 ⟨rfl,hb⟩;refine ⟨_,rfl,?_⟩;have n0_:=A0_ (blk_below (g:=gb484) (o:=.cells #[.slice A0_0 l0_0.length c0_0,.int .i64 a0_1,.int .i64 a0_2,.int .i64 a0_3] 29 (0,0)) (bd_ BK484.out) hb);have n1_:=A0_ (below_step (by repeat (first|(with_reducible first|exact HB.out|apply below_alloc|apply pw_below_drewN|apply below_drew1|refine below_set ?_ GE484.out)|exact HB.out)) hb);clear BK484;clear HB;have BK484:=n0_;have HB:=n1_;clear n0_ n1_;(try clear hb);(try clear hb2);(try clear hk);(try clear hi);obtain ⟨hcz140_0,hcz140_1,hcz140_2,hcz140_3,hfz140_0,hfz140_1,hfz140_2,hfz140_3⟩:=bq4_ BK484.out)|((with_reducible refine gate_callee (f:=14) rfl ?_);refine goesL_ (some 44) rfl rfl Tryz.func14 (by kernel_rfl) rfl #[.agg #[.slice A0_0 l0_0.length c0_0,.int .i64 a0_1,.int .i64 a0_2,.int .i64 a0_3]] rfl y1_ ?_;(with_reducible refine (tr_Sky.calls k _ _ l0_0 a0_1 a0_2 a0_3 false _ ?side1 ?side2 A9.out).mono ?_);(case side1=>repeat (first|exact (Kd.C_below HR0_0.out HB.out)|(with_reducible refine Kd.C_alloc ?_ _)|(with_reducible refine Kd.C_drewN ?_ _)|(with_reducible refine Kd.C_drew ?_)));(case side2=>exact HC0_0.out);rintro e w141 ⟨rfl,hb⟩;refine ⟨_,rfl,?_⟩;have n0_:=A0_ (blk_below (g:=gb484) (o:=.cells #[.slice A0_0 l0_0.length c0_0,.int .i64 a0_1,.int .i64 a0_2,.int .i64 a0_3] 29 (0,0)) (bd_ BK484.out) hb);have n1_:=A0_ (below_step (by repeat (first|(with_reducible first|exact HB.out|apply below_alloc|apply pw_below_drewN|apply below_drew1|refine below_set ?_ GE484.out)|exact HB.out)) hb);clear BK484;clear HB;have BK484:=n0_;have HB:=n1_;clear n0_ n1_;(try clear hb);(try clear hb2);(try clear hk);(try clear hi)))
      go_ret
      exact ⟨y2_,(by repeat (first|(with_reducible first|exact HB.out|apply below_alloc|apply pw_below_drewN|apply below_drew1|refine below_set ?_ GE484.out)|exact HB.out))⟩
    ·rw [if_neg c68] at H
     have c68b0:(t487 == 0)=false:=beq_eq_false_iff_ne.mpr c68
     have c68b1:(t487 != 0)=true:=bne_iff_ne.mpr c68
     obtain rfl:=Option.some.inj H
     go_enter Tryz.func6,Tryz.ntmps6
     go_wp2_with (first|((with_reducible refine gate_dst (N:=3) rfl ?_);refine box_event ?hg (N:=3) ?hd (cs:=#[.slice A0_0 l0_0.length c0_0,.int .i64 a0_1,.int .i64 a0_2,.int .i64 a0_3]) (t:=29) ?hr ?_;(case hd=>rfl);(case hg=>rfl);(case hr=>first|(go_simp;done)|(go_simp;rfl));intro gb484 hg w142 hbox hb;have n0_:=A0_ (below_step y0_ hb);have n1_:=A0_ (hbox);have n2_:=A0_ ((by rw [hg];exact (below_size y0_):w.heap.size≤gb484));have n3_:=A0_ ((by rw [hg];exact (below_size y0_):w.heap.size≤gb484));clear HB;have HB:=n0_;have BK484:=n1_;have GW484:=n2_;have GE484:=n3_;clear n0_ n1_ n2_ n3_;clear hb hbox hg;obtain ⟨hcz143_0,hcz143_1,hcz143_2,hcz143_3,hfz143_0,hfz143_1,hfz143_2,hfz143_3⟩:=bq4_ BK484.out)|((with_reducible refine gate_callee (f:=17) rfl ?_);refine goesL_ (some 22) rfl rfl Tryz.func17 (by kernel_rfl) rfl #[.agg #[.slice A0_0 l0_0.length c0_0,.int .i64 a0_1,.int .i64 a0_2,.int .i64 a0_3]] rfl y1_ ?_;(with_reducible refine (tl_short.calls k _ _ l0_0 a0_1 a0_2 a0_3 true _ ?side1 ?side2 A4.out).mono ?_);(case side1=>repeat (first|exact (Kd.C_below HR0_0.out HB.out)|(with_reducible refine Kd.C_alloc ?_ _)|(with_reducible refine Kd.C_drewN ?_ _)|(with_reducible refine Kd.C_drew ?_)));(case side2=>exact HC0_0.out);rintro e w144 ⟨rfl,hb⟩;refine ⟨_,rfl,?_⟩;have n0_:=A0_ (blk_below (g:=gb484) (o:=.cells #[.slice A0_0 l0_0.length c0_0,.int .i64 a0_1,.int .i64 a0_2,.int .i64 a0_3] 29 (0,0)) (bd_ BK484.out) hb);have n1_:=A0_ (below_step (by repeat (first|(with_reducible first|exact HB.out|apply below_alloc|apply pw_below_drewN|apply below_drew1|refine below_set ?_ GE484.out)|exact HB.out)) hb);clear BK484;clear HB;have BK484:=n0_;have HB:=n1_;clear n0_ n1_;(try clear hb);(try clear hb2);(try clear hk);(try clear hi);obtain ⟨hcz145_0,hcz145_1,hcz145_2,hcz145_3,hfz145_0,hfz145_1,hfz145_2,hfz145_3⟩:=bq4_ BK484.out)|((with_reducible refine gate_callee (f:=32) rfl ?_);refine goesL_ (some 27) rfl rfl Tryz.func32 (by kernel_rfl) rfl #[.agg #[.slice A0_0 l0_0.length c0_0,.int .i64 a0_1,.int .i64 a0_2,.int .i64 a0_3]] rfl y1_ ?_;(with_reducible refine (sky_Month.calls k _ _ l0_0 a0_1 a0_2 a0_3 t487 t488 t489 _ ?side1 ?side2 A6.out).mono ?_);(case side1=>repeat (first|exact (Kd.C_below HR0_0.out HB.out)|(with_reducible refine Kd.C_alloc ?_ _)|(with_reducible refine Kd.C_drewN ?_ _)|(with_reducible refine Kd.C_drew ?_)));(case side2=>exact HC0_0.out);rintro e w146 ⟨rfl,hb⟩;refine ⟨_,rfl,?_⟩;have n0_:=A0_ (blk_below (g:=gb484) (o:=.cells #[.slice A0_0 l0_0.length c0_0,.int .i64 a0_1,.int .i64 a0_2,.int .i64 a0_3] 29 (0,0)) (bd_ BK484.out) hb);have n1_:=A0_ (below_step (by repeat (first|(with_reducible first|exact HB.out|apply below_alloc|apply pw_below_drewN|apply below_drew1|refine below_set ?_ GE484.out)|exact HB.out)) hb);clear BK484;clear HB;have BK484:=n0_;have HB:=n1_;clear n0_ n1_;(try clear hb);(try clear hb2);(try clear hk);(try clear hi);obtain ⟨hcz147_0,hcz147_1,hcz147_2,hcz147_3,hfz147_0,hfz147_1,hfz147_2,hfz147_3⟩:=bq4_ BK484.out)|((with_reducible refine gate_callee (f:=33) rfl ?_);refine goesL_ (some 34) rfl rfl Tryz.func33 (by kernel_rfl) rfl #[.agg #[.slice A0_0 l0_0.length c0_0,.int .i64 a0_1,.int .i64 a0_2,.int .i64 a0_3],.int .i64 a1] rfl y1_ ?_;(with_reducible refine (sky_Drift.calls k _ _ l0_0 a0_1 a0_2 a0_3 a1 t490 t491 _ ?side1 ?side2 A7.out).mono ?_);(case side1=>repeat (first|exact (Kd.C_below HR0_0.out HB.out)|(with_reducible refine Kd.C_alloc ?_ _)|(with_reducible refine Kd.C_drewN ?_ _)|(with_reducible refine Kd.C_drew ?_)));(case side2=>exact HC0_0.out);rintro e w148 ⟨rfl,hb⟩;refine ⟨_,rfl,?_⟩;have n0_:=A0_ (blk_below (g:=gb484) (o:=.cells #[.slice A0_0 l0_0.length c0_0,.int .i64 a0_1,.int .i64 a0_2,.int .i64 a0_3] 29 (0,0)) (bd_ BK484.out) hb);have n1_:=A0_ (below_step (by repeat (first|(with_reducible first|exact HB.out|apply below_alloc|apply pw_below_drewN|apply below_drew1|refine below_set ?_ GE484.out)|exact HB.out)) hb);clear BK484;clear HB;have BK484:=n0_;have HB:=n1_;clear n0_ n1_;(try clear hb);(try clear hb2);(try clear hk);(try clear hi);obtain ⟨hcz149_0,hcz149_1,hcz149_2,hcz149_3,hfz149_0,hfz149_1,hfz149_2,hfz149_3⟩:=bq4_ BK484.out)|((with_reducible refine gate_callee (f:=34) rfl ?_);refine goesL_ (some 40) rfl rfl Tryz.func34 (by kernel_rfl) rfl #[.agg #[.slice A0_0 l0_0.length c0_0,.int .i64 a0_1,.int .i64 a0_2,.int .i64 a0_3],.int .i64 a2] rfl y1_ ?_;(with_reducible refine (sky_Cycle.calls k _ _ l0_0 a0_1 a0_2 a0_3 a2 t492 t493 _ ?side1 ?side2 A8.out).mono ?_);(case side1=>repeat (first|exact (Kd.C_below HR0_0.out HB.out)|(with_reducible refine Kd.C_alloc ?_ _)|(with_reducible refine Kd.C_drewN ?_ _)|(with_reducible refine Kd.C_drew ?_)));(case side2=>exact HC0_0.out);rintro e w150 ⟨rfl,hb⟩;refine ⟨_,rfl,?_⟩;have n0_:=A0_ (blk_below (g:=gb484) (o:=.cells #[.slice A0_0 l0_0.length c0_0,.int .i64 a0_1,.int .i64 a0_2,.int .i64 a0_3] 29 (0,0)) (bd_ BK484.out) hb);have n1_:=A0_ (below_step (by repeat (first|(with_reducible first|exact HB.out|apply below_alloc|apply pw_below_drewN|apply below_drew1|refine below_set ?_ GE484.out)|exact HB.out)) hb);clear BK484;clear HB;have BK484:=n0_;have HB:=n1_;clear n0_ n1_;(try clear hb);(try clear hb2);(try clear hk);(try clear hi);obtain ⟨hcz151_0,hcz151_1,hcz151_2,hcz151_3,hfz151_0,hfz151_1,hfz151_2,hfz151_3⟩:=bq4_ BK484.out)|((with_reducible refine gate_callee (f:=14) rfl ?_);refine goesL_ (some 44) rfl rfl Tryz.func14 (by kernel_rfl) rfl #[.agg #[.slice A0_0 l0_0.length c0_0,.int .i64 a0_1,.int .i64 a0_2,.int .i64 a0_3]] rfl y1_ ?_;(with_reducible refine (tr_Sky.calls k _ _ l0_0 a0_1 a0_2 a0_3 false _ ?side1 ?side2 A9.out).mono ?_);(case side1=>repeat (first|exact (Kd.C_below HR0_0.out HB.out)|(with_reducible refine Kd.C_alloc ?_ _)|(with_reducible refine Kd.C_drewN ?_ _)|(with_reducible refine Kd.C_drew ?_)));(case side2=>exact HC0_0.out);rintro e w152 ⟨rfl,hb⟩;refine ⟨_,rfl,?_⟩;have n0_:=A0_ (blk_below (g:=gb484) (o:=.cells #[.slice A0_0 l0_0.length c0_0,.int .i64 a0_1,.int .i64 a0_2,.int .i64 a0_3] 29 (0,0)) (bd_ BK484.out) hb);have n1_:=A0_ (below_step (by repeat (first|(with_reducible first|exact HB.out|apply below_alloc|apply pw_below_drewN|apply below_drew1|refine below_set ?_ GE484.out)|exact HB.out)) hb);clear BK484;clear HB;have BK484:=n0_;have HB:=n1_;clear n0_ n1_;(try clear hb);(try clear hb2);(try clear hk);(try clear hi)))
     go_ret
     exact ⟨y2_,(by repeat (first|(with_reducible first|exact HB.out|apply below_alloc|apply pw_below_drewN|apply below_drew1|refine below_set ?_ GE484.out)|exact HB.out))⟩
   ·rw [if_neg c67] at H
    have c67b0:(t489 == 2)=false:=beq_eq_false_iff_ne.mpr c67
    have c67b1:(t489 != 2)=true:=bne_iff_ne.mpr c67
    obtain rfl:=Option.some.inj H
    go_enter Tryz.func6,Tryz.ntmps6
    go_wp2_with (first|((with_reducible refine gate_dst (N:=3) rfl ?_);refine box_event ?hg (N:=3) ?hd (cs:=#[.slice A0_0 l0_0.length c0_0,.int .i64 a0_1,.int .i64 a0_2,.int .i64 a0_3]) (t:=29) ?hr ?_;(case hd=>rfl);(case hg=>rfl);(case hr=>first|(go_simp;done)|(go_simp;rfl));intro gb484 hg w153 hbox hb;have n0_:=A0_ (below_step y0_ hb);have n1_:=A0_ (hbox);have n2_:=A0_ ((by rw [hg];exact (below_size y0_):w.heap.size≤gb484));have n3_:=A0_ ((by rw [hg];exact (below_size y0_):w.heap.size≤gb484));clear HB;have HB:=n0_;have BK484:=n1_;have GW484:=n2_;have GE484:=n3_;clear n0_ n1_ n2_ n3_;clear hb hbox hg;obtain ⟨hcz154_0,hcz154_1,hcz154_2,hcz154_3,hfz154_0,hfz154_1,hfz154_2,hfz154_3⟩:=bq4_ BK484.out)|((with_reducible refine gate_callee (f:=17) rfl ?_);refine goesL_ (some 22) rfl rfl Tryz.func17 (by kernel_rfl) rfl #[.agg #[.slice A0_0 l0_0.length c0_0,.int .i64 a0_1,.int .i64 a0_2,.int .i64 a0_3]] rfl y1_ ?_;(with_reducible refine (tl_short.calls k _ _ l0_0 a0_1 a0_2 a0_3 true _ ?side1 ?side2 A4.out).mono ?_);(case side1=>repeat (first|exact (Kd.C_below HR0_0.out HB.out)|(with_reducible refine Kd.C_alloc ?_ _)|(with_reducible refine Kd.C_drewN ?_ _)|(with_reducible refine Kd.C_drew ?_)));(case side2=>exact HC0_0.out);rintro e w155 ⟨rfl,hb⟩;refine ⟨_,rfl,?_⟩;have n0_:=A0_ (blk_below (g:=gb484) (o:=.cells #[.slice A0_0 l0_0.length c0_0,.int .i64 a0_1,.int .i64 a0_2,.int .i64 a0_3] 29 (0,0)) (bd_ BK484.out) hb);have n1_:=A0_ (below_step (by repeat (first|(with_reducible first|exact HB.out|apply below_alloc|apply pw_below_drewN|apply below_drew1|refine below_set ?_ GE484.out)|exact HB.out)) hb);clear BK484;clear HB;have BK484:=n0_;have HB:=n1_;clear n0_ n1_;(try clear hb);(try clear hb2);(try clear hk);(try clear hi);obtain ⟨hcz156_0,hcz156_1,hcz156_2,hcz156_3,hfz156_0,hfz156_1,hfz156_2,hfz156_3⟩:=bq4_ BK484.out)|((with_reducible refine gate_callee (f:=32) rfl ?_);refine goesL_ (some 27) rfl rfl Tryz.func32 (by kernel_rfl) rfl #[.agg #[.slice A0_0 l0_0.length c0_0,.int .i64 a0_1,.int .i64 a0_2,.int .i64 a0_3]] rfl y1_ ?_;(with_reducible refine (sky_Month.calls k _ _ l0_0 a0_1 a0_2 a0_3 t487 t488 t489 _ ?side1 ?side2 A6.out).mono ?_);(case side1=>repeat (first|exact (Kd.C_below HR0_0.out HB.out)|(with_reducible refine Kd.C_alloc ?_ _)|(with_reducible refine Kd.C_drewN ?_ _)|(with_reducible refine Kd.C_drew ?_)));(case side2=>exact HC0_0.out);rintro e w157 ⟨rfl,hb⟩;refine ⟨_,rfl,?_⟩;have n0_:=A0_ (blk_below (g:=gb484) (o:=.cells #[.slice A0_0 l0_0.length c0_0,.int .i64 a0_1,.int .i64 a0_2,.int .i64 a0_3] 29 (0,0)) (bd_ BK484.out) hb);have n1_:=A0_ (below_step (by repeat (first|(with_reducible first|exact HB.out|apply below_alloc|apply pw_below_drewN|apply below_drew1|refine below_set ?_ GE484.out)|exact HB.out)) hb);clear BK484;clear HB;have BK484:=n0_;have HB:=n1_;clear n0_ n1_;(try clear hb);(try clear hb2);(try clear hk);(try clear hi);obtain ⟨hcz158_0,hcz158_1,hcz158_2,hcz158_3,hfz158_0,hfz158_1,hfz158_2,hfz158_3⟩:=bq4_ BK484.out)|((with_reducible refine gate_callee (f:=33) rfl ?_);refine goesL_ (some 34) rfl rfl Tryz.func33 (by kernel_rfl) rfl #[.agg #[.slice A0_0 l0_0.length c0_0,.int .i64 a0_1,.int .i64 a0_2,.int .i64 a0_3],.int .i64 a1] rfl y1_ ?_;(with_reducible refine (sky_Drift.calls k _ _ l0_0 a0_1 a0_2 a0_3 a1 t490 t491 _ ?side1 ?side2 A7.out).mono ?_);(case side1=>repeat (first|exact (Kd.C_below HR0_0.out HB.out)|(with_reducible refine Kd.C_alloc ?_ _)|(with_reducible refine Kd.C_drewN ?_ _)|(with_reducible refine Kd.C_drew ?_)));(case side2=>exact HC0_0.out);rintro e w159 ⟨rfl,hb⟩;refine ⟨_,rfl,?_⟩;have n0_:=A0_ (blk_below (g:=gb484) (o:=.cells #[.slice A0_0 l0_0.length c0_0,.int .i64 a0_1,.int .i64 a0_2,.int .i64 a0_3] 29 (0,0)) (bd_ BK484.out) hb);have n1_:=A0_ (below_step (by repeat (first|(with_reducible first|exact HB.out|apply below_alloc|apply pw_below_drewN|apply below_drew1|refine below_set ?_ GE484.out)|exact HB.out)) hb);clear BK484;clear HB;have BK484:=n0_;have HB:=n1_;clear n0_ n1_;(try clear hb);(try clear hb2);(try clear hk);(try clear hi);obtain ⟨hcz160_0,hcz160_1,hcz160_2,hcz160_3,hfz160_0,hfz160_1,hfz160_2,hfz160_3⟩:=bq4_ BK484.out)|((with_reducible refine gate_callee (f:=34) rfl ?_);refine goesL_ (some 40) rfl rfl Tryz.func34 (by kernel_rfl) rfl #[.agg #[.slice A0_0 l0_0.length c0_0,.int .i64 a0_1,.int .i64 a0_2,.int .i64 a0_3],.int .i64 a2] rfl y1_ ?_;(with_reducible refine (sky_Cycle.calls k _ _ l0_0 a0_1 a0_2 a0_3 a2 t492 t493 _ ?side1 ?side2 A8.out).mono ?_);(case side1=>repeat (first|exact (Kd.C_below HR0_0.out HB.out)|(with_reducible refine Kd.C_alloc ?_ _)|(with_reducible refine Kd.C_drewN ?_ _)|(with_reducible refine Kd.C_drew ?_)));(case side2=>exact HC0_0.out);rintro e w161 ⟨rfl,hb⟩;refine ⟨_,rfl,?_⟩;have n0_:=A0_ (blk_below (g:=gb484) (o:=.cells #[.slice A0_0 l0_0.length c0_0,.int .i64 a0_1,.int .i64 a0_2,.int .i64 a0_3] 29 (0,0)) (bd_ BK484.out) hb);have n1_:=A0_ (below_step (by repeat (first|(with_reducible first|exact HB.out|apply below_alloc|apply pw_below_drewN|apply below_drew1|refine below_set ?_ GE484.out)|exact HB.out)) hb);clear BK484;clear HB;have BK484:=n0_;have HB:=n1_;clear n0_ n1_;(try clear hb);(try clear hb2);(try clear hk);(try clear hi);obtain ⟨hcz162_0,hcz162_1,hcz162_2,hcz162_3,hfz162_0,hfz162_1,hfz162_2,hfz162_3⟩:=bq4_ BK484.out)|((with_reducible refine gate_callee (f:=14) rfl ?_);refine goesL_ (some 44) rfl rfl Tryz.func14 (by kernel_rfl) rfl #[.agg #[.slice A0_0 l0_0.length c0_0,.int .i64 a0_1,.int .i64 a0_2,.int .i64 a0_3]] rfl y1_ ?_;(with_reducible refine (tr_Sky.calls k _ _ l0_0 a0_1 a0_2 a0_3 false _ ?side1 ?side2 A9.out).mono ?_);(case side1=>repeat (first|exact (Kd.C_below HR0_0.out HB.out)|(with_reducible refine Kd.C_alloc ?_ _)|(with_reducible refine Kd.C_drewN ?_ _)|(with_reducible refine Kd.C_drew ?_)));(case side2=>exact HC0_0.out);rintro e w163 ⟨rfl,hb⟩;refine ⟨_,rfl,?_⟩;have n0_:=A0_ (blk_below (g:=gb484) (o:=.cells #[.slice A0_0 l0_0.length c0_0,.int .i64 a0_1,.int .i64 a0_2,.int .i64 a0_3] 29 (0,0)) (bd_ BK484.out) hb);have n1_:=A0_ (below_step (by repeat (first|(with_reducible first|exact HB.out|apply below_alloc|apply pw_below_drewN|apply below_drew1|refine below_set ?_ GE484.out)|exact HB.out)) hb);clear BK484;clear HB;have BK484:=n0_;have HB:=n1_;clear n0_ n1_;(try clear hb);(try clear hb2);(try clear hk);(try clear hi)))
    go_ret
    exact ⟨y2_,(by repeat (first|(with_reducible first|exact HB.out|apply below_alloc|apply pw_below_drewN|apply below_drew1|refine below_set ?_ GE484.out)|exact HB.out))⟩
 ·replace c5:=Bool.eq_false_iff.mpr c5;subst c5
  have H1:((tl_known.f).bind fun t486=>(some t486))=some r:=by rw [if_neg (show ¬ (false=true) by decide)] at H;exact H
  clear H;have H:=H1;clear H1;replace H:=Option.bind_eq_some_iff.mp H;obtain ⟨t486,A1640,H⟩:=H
  replace H:(some t486)=some r:=H
  have A164:=A0_ A1640;clear A1640;obtain rfl:=Option.some.inj H
  go_enter Tryz.func6,Tryz.ntmps6
  go_wp2_with (first|((with_reducible refine gate_dst (N:=3) rfl ?_);refine box_event ?hg (N:=3) ?hd (cs:=#[.slice A0_0 l0_0.length c0_0,.int .i64 a0_1,.int .i64 a0_2,.int .i64 a0_3]) (t:=29) ?hr ?_;(case hd=>rfl);(case hg=>rfl);(case hr=>first|(go_simp;done)|(go_simp;rfl));intro gb484 hg w165 hbox hb;have n0_:=A0_ (below_step y0_ hb);have n1_:=A0_ (hbox);have n2_:=A0_ ((by rw [hg];exact (below_size y0_):w.heap.size≤gb484));have n3_:=A0_ ((by rw [hg];exact (below_size y0_):w.heap.size≤gb484));clear HB;have HB:=n0_;have BK484:=n1_;have GW484:=n2_;have GE484:=n3_;clear n0_ n1_ n2_ n3_;clear hb hbox hg;obtain ⟨hcz166_0,hcz166_1,hcz166_2,hcz166_3,hfz166_0,hfz166_1,hfz166_2,hfz166_3⟩:=bq4_ BK484.out)|((with_reducible refine gate_callee (f:=17) rfl ?_);refine goesL_ (some 22) rfl rfl Tryz.func17 (by kernel_rfl) rfl #[.agg #[.slice A0_0 l0_0.length c0_0,.int .i64 a0_1,.int .i64 a0_2,.int .i64 a0_3]] rfl y1_ ?_;(with_reducible refine (tl_short.calls k _ _ l0_0 a0_1 a0_2 a0_3 false _ ?side1 ?side2 A4.out).mono ?_);(case side1=>repeat (first|exact (Kd.C_below HR0_0.out HB.out)|(with_reducible refine Kd.C_alloc ?_ _)|(with_reducible refine Kd.C_drewN ?_ _)|(with_reducible refine Kd.C_drew ?_)));(case side2=>exact HC0_0.out);rintro e w167 ⟨rfl,hb⟩;refine ⟨_,rfl,?_⟩;have n0_:=A0_ (blk_below (g:=gb484) (o:=.cells #[.slice A0_0 l0_0.length c0_0,.int .i64 a0_1,.int .i64 a0_2,.int .i64 a0_3] 29 (0,0)) (bd_ BK484.out) hb);have n1_:=A0_ (below_step (by repeat (first|(with_reducible first|exact HB.out|apply below_alloc|apply pw_below_drewN|apply below_drew1|refine below_set ?_ GE484.out)|exact HB.out)) hb);clear BK484;clear HB;have BK484:=n0_;have HB:=n1_;clear n0_ n1_;(try clear hb);(try clear hb2);(try clear hk);(try clear hi))|((with_reducible refine gate_callee (f:=11) rfl ?_);refine goesL_ (some 24) rfl rfl Tryz.func11 (by kernel_rfl) rfl #[] rfl y1_ ?_;(with_reducible refine (tl_known.calls  t486 _ A164.out ?side1).mono ?_);(case side1=>exact LD.below HLD.out (by repeat (first|(with_reducible first|exact HB.out|apply below_alloc|apply pw_below_drewN|apply below_drew1|refine below_set ?_ GE484.out)|exact HB.out)));rintro e w168 ⟨rfl,hb⟩;refine ⟨_,rfl,?_⟩;have n0_:=A0_ (blk_below (g:=gb484) (o:=.cells #[.slice A0_0 l0_0.length c0_0,.int .i64 a0_1,.int .i64 a0_2,.int .i64 a0_3] 29 (0,0)) (bd_ BK484.out) hb);have n1_:=A0_ (below_step (by repeat (first|(with_reducible first|exact HB.out|apply below_alloc|apply pw_below_drewN|apply below_drew1|refine below_set ?_ GE484.out)|exact HB.out)) hb);clear BK484;clear HB;have BK484:=n0_;have HB:=n1_;clear n0_ n1_;(try clear hb);(try clear hb2);(try clear hk);(try clear hi)))
  go_ret
  exact ⟨y2_,(by repeat (first|(with_reducible first|exact HB.out|apply below_alloc|apply pw_below_drewN|apply below_drew1|refine below_set ?_ GE484.out)|exact HB.out))⟩
end Go.Proofs.YtjahbgldccjbfaaGreatDoor.PSky
end
section
namespace Go.Proofs.YtjahbgldccjbfaaGreatDoor.PSky
open Go.RowKit Go.Proofs.YtjahbgldccjbfaaGreatDoorW.PrintWords Go.Proofs.YtjahbgldccjbfaaGreatDoorW.PrintLast Go.Proofs.YtjahbgldccjbfaaGreatDoorW.PrintMore
def okMonths (m:Int):Bool:=okIn m 0 400
theorem areMonths_eq (m:Int):sky_areMonths.f m=some (okMonths m):=by unfold sky_areMonths.f;rw [in_eq];rfl
theorem Months_eq (m:Int):tr_Months.f m=some (okMonths m):=areMonths_eq m
theorem Drift_ev (l:List S74) (p q n m:Int):Ev (fun k=>sky_Drift.f k l p q n m) (if okSky l p q n=true∧okMonths m=true then (if mDen l≤0 then (0,7) else (driftOf l p q m,0)) else (0,2)):=by
 unfold sky_Drift.f
 refine Ev.bind (isSky_ev l p q n) ?_
 cases h:okSky l p q n with
 |false=>
  refine Ev.neg (by simp) ?_
  rw [if_neg (by simp)]
  exact Ev.now _
 |true=>
  have hk:=ok_at h
  refine Ev.pos rfl (Ev.bind (Ev.is (areMonths_eq m)) ?_)
  cases hm:okMonths m with
  |false=>
   refine Ev.neg (by simp) ?_
   rw [if_neg (by simp)]
   exact Ev.now _
  |true=>
   refine Ev.pos rfl (Ev.pos (by omega) ?_)
   rw [if_pos (show true=true∧true=true from ⟨rfl,rfl⟩),monthDen_eq h]
   by_cases hd:mDen l≤0
   ·refine Ev.pos hd ?_
    rw [if_pos hd]
    exact Ev.now _
   ·refine Ev.neg hd ?_
    rw [if_neg hd]
    exact Ev.bind (Ev.is (drift_eq h (by omega) (okIn_iff.mp hm))) (Ev.now _)
theorem refgcd_loop:∀ (b a:Nat),Ev (fun k=>tr_gcd.l0 k (a:Int) (b:Int)) ((Nat.gcd a b:Nat):Int):=by
 intro b
 induction b using Nat.strongRecOn with
 |_ b ih=>
  intro a
  refine Ev.step (fun k=>by rw [tr_gcd.l0]) ?_
  by_cases hb:b=0
  ·subst hb
   refine Ev.neg (by omega) ?_
   rw [Nat.gcd_zero_right]
   exact Ev.now _
  ·refine Ev.pos (by omega) (Ev.neg (by omega) ?_)
   rw [Int.tmod_eq_emod_of_nonneg (by omega),show ((a:Int) % (b:Int))=((a % b:Nat):Int) by omega,Nat.gcd_comm a b,Nat.gcd_rec b a,Nat.gcd_comm]
   exact ih (a % b) (Nat.mod_lt _ (by omega)) b
theorem refgcd_ev {a b:Int} (ha:0≤a) (hb:0≤b):Ev (fun k=>tr_gcd.f k a b) (gcdOf a b):=by
 have:=refgcd_loop b.toNat a.toNat
 rw [show ((a.toNat:Nat):Int)=a by omega,show ((b.toNat:Nat):Int)=b by omega] at this
 exact this
theorem refMonth_ev {l:List S74} {p q n:Int} (h:okSky l p q n=true):Ev (fun k=>tr_Month.f k l p q n) (if mDen l≤0 then (0,0,false) else (mNum l / gcdOf (mNum l) (mDen l),mDen l / gcdOf (mNum l) (mDen l),true)):=by
 have hk:=ok_at h
 obtain ⟨-,-,h3,h4⟩:=month_bounds h
 unfold tr_Month.f
 refine Ev.pos (by omega) (Ev.pos (by omega) ?_)
 show Ev (fun k=>if monthDen l≤0 then some (0,0,false) else (tr_gcd.f k (monthNum l) (monthDen l)).bind fun g=>if g=0 then none else some (wrap64 ((monthNum l).tdiv g),wrap64 ((monthDen l).tdiv g),true)) _
 rw [monthNum_eq h,monthDen_eq h]
 by_cases hd:mDen l≤0
 ·refine Ev.pos hd ?_
  rw [if_pos hd]
  exact Ev.now _
 ·refine Ev.neg hd ?_
  rw [if_neg hd]
  have hg:=gcd_pos (a:=mNum l) (b:=mDen l) (by omega)
  refine Ev.bind (refgcd_ev (by omega) (by omega)) (Ev.neg (by omega) ?_)
  rw [(tdiv_in (a:=mNum l) (by omega) hg).1,(tdiv_in (a:=mDen l) (by omega) hg).1]
  exact Ev.now _
theorem refDrift_eq {l:List S74} {p q n:Int} (h:okSky l p q n=true) (hd:0<mDen l) {m:Int} (hm:0≤m∧m≤400):tr_Drift.f l p q n m=some (driftOf l p q m):=by
 have hk:=ok_at h
 obtain ⟨b1,b2,b3,b4,b5⟩:=dNum_bounds h hm
 obtain ⟨c1,c2⟩:=dDen_bounds h hd
 obtain ⟨o1,o2,o3,o4⟩:=off_bounds (x:=dNum l p q m) c1
 have m1:=Int.emod_nonneg (dNum l p q m) (show dDen l p≠0 by omega)
 have m2:=Int.emod_lt_of_pos (dNum l p q m) c1
 have hdr:=drift_bounds (x:=dNum l p q m) c1
 obtain ⟨s,mo,no⟩:=periods h
 have e1:=mul_bounds (a:=(moonP l).f1*p+q*(moonP l).f0) (b:=(sunP l).f0) (m:=200000000) (n:=10000) (by omega) (by omega)
 have e2:2*m*(((moonP l).f1*p+q*(moonP l).f0)*(sunP l).f0)=dNum l p q m:=by
  unfold dNum
  rw [Int.mul_comm ((moonP l).f1*p+q*(moonP l).f0),← Int.mul_assoc]
 have e3:p*mDen l=dDen l p:=Int.mul_comm _ _
 unfold tr_Drift.f
 rw [if_pos (by omega),if_pos (by omega)]
 show (if wrap64 (p*monthDen l)=0 then none else some (wrap64 (Int.tdiv (wrap64 ((mn (Int.tmod (wrap64 (wrap64 (2*m)*wrap64 (wrap64 (wrap64 ((moonP l).f1*p)+wrap64 (q*(moonP l).f0))*(sunP l).f0))) (wrap64 (p*monthDen l))) (wrap64 (wrap64 (p*monthDen l) - Int.tmod (wrap64 (wrap64 (2*m)*wrap64 (wrap64 (wrap64 ((moonP l).f1*p)+wrap64 (q*(moonP l).f0))*(sunP l).f0))) (wrap64 (p*monthDen l)))))*10800)) (wrap64 (p*monthDen l)))))=some (driftOf l p q m)
 rw [monthDen_eq h,e3,wrap_id (show -9223372036854775808≤dDen l p∧dDen l p≤9223372036854775807 by omega),if_neg (by omega),wrap_id (show -9223372036854775808≤2*m∧2*m≤9223372036854775807 by omega),
  wrap_id (show -9223372036854775808≤(moonP l).f1*p∧(moonP l).f1*p≤9223372036854775807 by omega),wrap_id (show -9223372036854775808≤q*(moonP l).f0∧q*(moonP l).f0≤9223372036854775807 by omega),wrap_id (show -9223372036854775808≤(moonP l).f1*p+q*(moonP l).f0∧(moonP l).f1*p+q*(moonP l).f0≤9223372036854775807 by omega),
  wrap_id (show -9223372036854775808≤((moonP l).f1*p+q*(moonP l).f0)*(sunP l).f0∧((moonP l).f1*p+q*(moonP l).f0)*(sunP l).f0≤9223372036854775807 by omega),e2,wrap_id (show -9223372036854775808≤dNum l p q m∧dNum l p q m≤9223372036854775807 by omega),Int.tmod_eq_emod_of_nonneg b4,
  wrap_id (show -9223372036854775808≤dDen l p - dNum l p q m % dDen l p∧dDen l p - dNum l p q m % dDen l p≤9223372036854775807 by omega),show mn (dNum l p q m % dDen l p) (dDen l p - dNum l p q m % dDen l p)=offOf (dDen l p) (dNum l p q m) from rfl,
  wrap_id (show -9223372036854775808≤offOf (dDen l p) (dNum l p q m)*10800∧offOf (dDen l p) (dNum l p q m)*10800≤9223372036854775807 by omega),Int.tdiv_eq_ediv_of_nonneg (by omega),wrap_id (by omega)]
 rfl
theorem refCycle_loop {l:List S74} {p q n:Int} (h:okSky l p q n=true) (hd:0<mDen l) (limit:Int):∀ (m:Nat) (i:Int),1≤i→i+m=401→Ev (fun k=>tr_Cycle.l0 k limit i l p q n) ((cycleOf (driftOf l p q) limit m i).getD (-1))
 |0,i,h1,h2=>by
  refine Ev.step (fun k=>by rw [tr_Cycle.l0]) ?_
  exact Ev.neg (by omega) (Ev.now _)
 |m+1,i,h1,h2=>by
  have ih:=refCycle_loop h hd limit m (i+1) (by omega) (by omega)
  refine Ev.step (fun k=>by rw [tr_Cycle.l0]) ?_
  rw [wrap_id (show -9223372036854775808≤i+1∧i+1≤9223372036854775807 by omega),cycleOf]
  refine Ev.pos (by omega) (Ev.bind (Ev.is (refDrift_eq h hd (by omega))) ?_)
  by_cases hc:driftOf l p q i≤limit
  ·rw [if_pos hc]
   exact Ev.pos hc (Ev.now _)
  ·rw [if_neg hc]
   exact Ev.neg hc ih
theorem months_j4 {l:List S74} {p q n:Int} (m x10 x11 x12 x13 x18 x19 x20:Int) (h1:x18=0→x11=0∧tr_Drift.f l p q n m=some x10) (h2:x18≠0→x11=x18∧x10=0) (h3:x13=x19) (h4:x12=x20):Ev (fun k=>tl_SkyMonths.j4 k m x10 x11 x12 x13 x18 x19 x20 l p q n) true:=by
 refine Ev.step (fun k=>by rw [tl_SkyMonths.j4]) ?_
 by_cases h0:x18=0
 ·exact Ev.pos h0 (Ev.pos (h1 h0).1 (Ev.bind (Ev.is (h1 h0).2) (Ev.pos rfl (Ev.pos h3 (Ev.pos h4 known_ev)))))
 ·exact Ev.neg h0 (Ev.pos (h2 h0).1 (Ev.pos (h2 h0).2 (Ev.pos h3 (Ev.pos h4 known_ev))))
theorem SkyMonths_ev (l:List S74) (p q n m limit:Int):Ev (fun k=>tl_SkyMonths.f k l p q n m limit) true:=by
 obtain ⟨s,hs,hs6⟩:=short_ev l p q n
 unfold tl_SkyMonths.f
 refine Ev.bind hs ?_
 cases s with
 |false=>exact Ev.neg (by simp) known_ev
 |true=>
  have hl:=hs6 rfl
  have e1:=Month_ev l p q n
  have e2:=Drift_ev l p q n m
  have e3:=Cycle_ev l p q n limit
  refine Ev.pos rfl ?_
  cases h:okSky l p q n with
  |false=>
   rw [h,if_neg (by simp)] at e1 e2 e3
   refine Ev.bind e1 (Ev.bind e2 (Ev.bind e3 (Ev.bind (refSky_ev l p q n (by omega)) ?_)))
   rw [h]
   exact Ev.neg (by simp) (Ev.pos rfl (Ev.pos rfl (Ev.pos rfl (Ev.pos rfl (Ev.pos rfl (Ev.pos rfl (Ev.pos rfl known_ev)))))))
  |true=>
   rw [if_pos h] at e1
   rw [h] at e2 e3
   have er:=refMonth_ev h
   unfold monthOf at e1
   by_cases hd:mDen l≤0
   ·rw [if_pos hd] at e1 e2 e3 er
    have go:∀ (x10 x11 x12 x13:Int),(if okMonths m=true then x10=0∧x11=7 else x10=0∧x11=2)→(if okLimit limit=true then x12=0∧x13=7 else x12=0∧x13=2)→Ev (fun k=>tl_SkyMonths.j0 k m limit 0 0 7 x10 x11 x12 x13 0 0 7 l p q n) true:=by
     intro x10 x11 x12 x13 g1 g2
     have fin:∀ x18:Int,x18≠0→x11=x18∧x10=0→Ev (fun k=>tl_SkyMonths.j2 k m limit x10 x11 x12 x13 x18 7 0 l p q n) true:=by
      intro x18 hne hx
      refine Ev.step (fun k=>by rw [tl_SkyMonths.j2]) ?_
      refine Ev.bind (Ev.is (Limit_eq limit)) ?_
      cases hL:okLimit limit with
      |true=>
       rw [if_pos hL] at g2
       refine Ev.pos rfl ?_
       refine Ev.step (fun k=>by rw [tl_SkyMonths.j3]) ?_
       exact Ev.neg (by decide) (months_j4 m _ _ _ _ _ _ _ (fun h0=>absurd h0 hne) (fun _=>hx) g2.2 g2.1)
      |false=>
       rw [if_neg (by simp [hL])] at g2
       refine Ev.neg (by simp) ?_
       refine Ev.step (fun k=>by rw [tl_SkyMonths.j3]) ?_
       exact Ev.neg (by decide) (months_j4 m _ _ _ _ _ _ _ (fun h0=>absurd h0 hne) (fun _=>hx) g2.2 g2.1)
     refine Ev.step (fun k=>by rw [tl_SkyMonths.j0]) ?_
     refine Ev.pos rfl (Ev.pos rfl ?_)
     refine Ev.step (fun k=>by rw [tl_SkyMonths.j1]) ?_
     refine Ev.neg (by decide) (Ev.bind (Ev.is (Months_eq m)) ?_)
     cases hM:okMonths m with
     |true=>
      rw [if_pos hM] at g1
      exact Ev.pos rfl (fin 7 (by decide) ⟨g1.2,g1.1⟩)
     |false=>
      rw [if_neg (by simp [hM])] at g1
      exact Ev.neg (by simp) (fin 2 (by decide) ⟨g1.2,g1.1⟩)
    refine Ev.bind e1 (Ev.bind e2 (Ev.bind e3 (Ev.bind (refSky_ev l p q n (by omega)) ?_)))
    rw [h]
    refine Ev.pos rfl (Ev.bind er (Ev.neg (by simp) (go _ _ _ _ ?_ ?_)))
    ·cases okMonths m with
     |true=>exact ⟨rfl,rfl⟩
     |false=>exact ⟨rfl,rfl⟩
    ·cases okLimit limit with
     |true=>exact ⟨rfl,rfl⟩
     |false=>exact ⟨rfl,rfl⟩
   ·rw [if_neg hd] at e1 e2 e3 er
    have hd':0<mDen l:=by omega
    have go:∀ (a b x10 x11 x12 x13:Int),(if okMonths m=true then x10=driftOf l p q m∧x11=0 else x10=0∧x11=2)→(if okLimit limit=true then (match cycOf l p q limit with|some c=>x12=c∧x13=0|none=>x12=0∧x13=5) else x12=0∧x13=2)→Ev (fun k=>tl_SkyMonths.j0 k m limit a b 0 x10 x11 x12 x13 a b 0 l p q n) true:=by
     intro a b x10 x11 x12 x13 g1 g2
     have fin:∀ x18:Int,(x18=0→x11=0∧tr_Drift.f l p q n m=some x10)→(x18≠0→x11=x18∧x10=0)→Ev (fun k=>tl_SkyMonths.j2 k m limit x10 x11 x12 x13 x18 0 0 l p q n) true:=by
      intro x18 hx1 hx2
      refine Ev.step (fun k=>by rw [tl_SkyMonths.j2]) ?_
      refine Ev.bind (Ev.is (Limit_eq limit)) ?_
      cases hL:okLimit limit with
      |true=>
       rw [if_pos hL] at g2
       have hcy:=refCycle_loop h hd' limit 400 1 (by decide) (by decide)
       refine Ev.pos rfl ?_
       refine Ev.step (fun k=>by rw [tl_SkyMonths.j3]) ?_
       refine Ev.pos rfl (Ev.bind hcy ?_)
       unfold cycOf at g2
       cases hc:cycleOf (driftOf l p q) limit 400 1 with
       |none=>
        rw [hc] at g2
        exact Ev.pos (by decide) (months_j4 m _ _ _ _ _ _ _ hx1 hx2 g2.2 g2.1)
       |some c=>
        rw [hc] at g2
        have hb:=cycleOf_some hc
        exact Ev.neg (by simp only [Option.getD_some];omega) (months_j4 m _ _ _ _ _ _ _ hx1 hx2 g2.2 g2.1)
      |false=>
       rw [if_neg (by simp [hL])] at g2
       refine Ev.neg (by simp) ?_
       refine Ev.step (fun k=>by rw [tl_SkyMonths.j3]) ?_
       exact Ev.neg (by decide) (months_j4 m _ _ _ _ _ _ _ hx1 hx2 g2.2 g2.1)
     refine Ev.step (fun k=>by rw [tl_SkyMonths.j0]) ?_
     refine Ev.pos rfl (Ev.pos rfl ?_)
     refine Ev.step (fun k=>by rw [tl_SkyMonths.j1]) ?_
     refine Ev.neg (by simp) (Ev.bind (Ev.is (Months_eq m)) ?_)
     cases hM:okMonths m with
     |true=>
      rw [if_pos hM] at g1
      exact Ev.pos rfl (fin 0 (fun _=>⟨g1.2,by rw [g1.1];exact refDrift_eq h hd' (okIn_iff.mp hM)⟩) (fun h0=>absurd rfl h0))
     |false=>
      rw [if_neg (by simp [hM])] at g1
      exact Ev.neg (by simp) (fin 2 (fun h0=>absurd h0 (by decide)) (fun _=>⟨g1.2,g1.1⟩))
    refine Ev.bind e1 (Ev.bind e2 (Ev.bind e3 (Ev.bind (refSky_ev l p q n (by omega)) ?_)))
    rw [h]
    refine Ev.pos rfl (Ev.bind er (Ev.pos rfl (go _ _ _ _ _ _ ?_ ?_)))
    ·cases okMonths m with
     |true=>exact ⟨rfl,rfl⟩
     |false=>exact ⟨rfl,rfl⟩
    ·cases okLimit limit with
     |true=>
      cases cycOf l p q limit with
      |none=>exact ⟨rfl,rfl⟩
      |some c=>exact ⟨rfl,rfl⟩
     |false=>exact ⟨rfl,rfl⟩
end Go.Proofs.YtjahbgldccjbfaaGreatDoor.PSky
end
section
namespace Go.Proofs.YtjahbgldccjbfaaGreatDoor
open Go.ChangeShapes Go.WideShapes Go.ChangeAt Go.RowKit
set_option maxRecDepth 100000 in
set_option maxHeartbeats 1600000 in
theorem skyMonths_lifted (os:Os) (started:os.Started) (H:Type) (enc:TypeId × Value→H) (F:Stop.Interp):
  ReturnsInHanded {} Tryz.checked os 6 .any ((OpenSpec.ofChange Rows.skyMonthsSpec).preRow enc Tryz.prog Tryz.f6 Rows.skyMonthsRow.domain false Rows.skyMonthsRow.laid) (((OpenSpec.ofChange Rows.skyMonthsSpec).at F).post enc Tryz.prog Tryz.f6 false true false false):=by
 refine returnsInHanded_of_row (C:=Tryz.checked) (s:=OpenSpec.ofChange Rows.skyMonthsSpec) own started (by kernel_rfl) Tryz.func6
  (witness_row_at (enc:=enc) (C:=Tryz.checked) false (laidWorld os) #[.agg #[.slice none 0 0,.int .i64 0,.int .i64 0,.int .i64 0],.int .i64 0,.int .i64 0] rfl (by kernel_rfl) (by kernel_rfl) (by kernel_rfl) (OpenSpec.preRow_of_B rfl 8 (by kernel_rfl) (by kernel_rfl) (laid_met os _))) ?_
 intro W base args ds gs before hval0 hW _ _ hsz0 hL hsh _
 have hval:∀ (j:Nat) t v,Tryz.f6.params[j]?=some t→args[j]?=some v→Value.okWide Tryz.prog W .any base t v:=hval0
 have hW':=hW
 obtain ⟨p,q,hA0,hV,rfl,hfz,hnd⟩:=hW
 have hA:DataW.TrodAll enc Tryz.prog W 0 (fun _=>true) true Tryz.f6.params.toList args.toList ds p:=hA0
 rw [Tryz.params6] at hA hval
 obtain ⟨v0,vs0,d0,ds0,p0,q0,hargs,rfl,rfl,h0,r0⟩:=trodAll_cons hA
 obtain ⟨v1,vs1,d1,ds1,p1,q1,rfl,rfl,rfl,h1,r1⟩:=trodAll_cons r0
 obtain ⟨v2,vs2,d2,ds2,p2,q2,rfl,rfl,rfl,h2,r2⟩:=trodAll_cons r1
 obtain ⟨rfl,rfl,rfl⟩:=trodAll_nil r2
 obtain rfl:args=#[v0,v1,v2]:=by cases args;simp_all
 obtain ⟨rfl,rfl⟩:=trodVars_none hV
 have k0:=h0
 have lt0:∀ x∈p0,x.block<W.heap.size:=by obtain ⟨m,hm⟩:=k0;exact DataW.trod_lt m _ _ _ hm
 obtain ⟨fuel0,hf0⟩:=h0
 obtain ⟨A0,c0,l0,a0,b0,e0,hcs0,hlc0,hC0⟩:=PSky.open_sky hf0
 obtain rfl:=agg_of hcs0 rfl
 obtain ⟨x1,rfl,rfl,rfl,w1⟩:=open_int Tryz.underlying3 (hval 1 3 v1 rfl rfl) h1
 obtain ⟨x2,rfl,rfl,rfl,w2⟩:=open_int Tryz.underlying3 (hval 2 3 v2 rfl rfl) h2
 obtain ⟨k,hk⟩:=(PSky.SkyMonths_ev l0 a0 b0 e0 x1 x2).rounds
 have hld:=ld_of hL hsh
 clear hA0 hval0 hsz0 hA hval hL hsh
 refine (PSky.tl_SkyMonths.calls k A0 c0 l0 a0 b0 e0 x1 x2 true W hC0 hlc0 hk hld).mono fun e W' ⟨he,bel⟩=>?_
 subst he
 exact ⟨_,rfl,_,_,_,[],_,[],hW',trodAll_mk1 (shut_bool Tryz.underlying4 _),(trodAll_cons_mk (Below.trod laidOut (by kernel_rfl) (of_decide_eq_true (by kernel_rfl)) k0 bel lt0) (trodAll_cons_mk (shut_int Tryz.underlying3 w1) (trodAll_cons_mk (shut_int Tryz.underlying3 w2) trodAll_mk0))),rfl,bel.frame _,fun h=>by cases h⟩
theorem skyMonths_holds:Rows.SkyMonthsSaid:=
 OpenClaim.holds_of_wide 6 Tryz.f6 rfl rfl rfl rfl rfl rfl rfl ⟨rfl,rfl,rfl,rfl,rfl⟩ rfl rfl rfl rfl rfl (by kernel_rfl) Tryz.func6 (by kernel_rfl)
  (of_decide_eq_true (by kernel_rfl)) (by unfold Func.isWrapper;first|(rw [if_pos (by decide +kernel)];kernel_rfl)|(rw [if_neg (by decide +kernel)];exact ⟨rfl,rfl⟩))
  (fun os started H enc _=>skyMonths_lifted os started H enc (fun _ _ _=>0))
end Go.Proofs.YtjahbgldccjbfaaGreatDoor
end
