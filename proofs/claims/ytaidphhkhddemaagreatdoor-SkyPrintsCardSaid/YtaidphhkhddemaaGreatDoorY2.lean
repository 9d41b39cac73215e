/- A part of the proof of a law of the layer sky. -/
import Derived.Test.YtaidphhkhddemaaGreatDoorY1
section
namespace Go.Proofs.YtaidphhkhddemaaGreatDoor.PSky
open Go.RowKit Go.Proofs.YtaidphhkhddemaaGreatDoorW.PrintWords Go.Proofs.YtaidphhkhddemaaGreatDoorW.PrintLast Go.Proofs.YtaidphhkhddemaaGreatDoorW.PrintMore
attribute [local go_sem] max2_int min2_int max_two min_two max_three min_three max_four min_four
set_option linter.unusedVariables false
set_option linter.unusedSimpArgs false
attribute [local go_sem high] eqA54
def ss_far.f (k:Nat) (l0_0:List (S83)) (a0_1:Int) (a0_2:Int) (a0_3:Int) (a0_4:Int):Option (Int):=(ss_moon.f k l0_0 a0_1 a0_2 a0_3 a0_4).bind fun t242=>((ss_node.f l0_0 a0_1 a0_2 a0_3 a0_4).bind fun t243=>((sky_floor.f (wrap64 (t242 - t243)) 10800).bind fun bt244=>(some (mn bt244.2 (wrap64 (10800 - bt244.2))))))
def ss_far.T1:Bool × List (List Nat × List Nat):=(true,[([],[]),([0],[0]),([],[]),([2,1],[2]),([1,3],[1,3]),([4,3],[4]),([5],[5]),([6],[6]),([6],[6]),([7,5,0,1,2,3,4,5,6,7],[7]),([8,9,0,1,2,3,4,5,6,7,8,9],[8])])
def ss_far.B1:List Nat:=[0,1,0,7,15,31,63,127,127,255,1023]
theorem ss_far.tab1:rtab .any (opsOf Tryz.f59 1)=ss_far.T1:=by kernel_rfl
theorem ss_far.bits1:waitsOk ss_far.T1.2 ss_far.B1=true:=by kernel_rfl
set_option maxHeartbeats 8000000 in
set_option maxRecDepth 100000 in
theorem ss_far.calls (k:Nat) (A0_0:Option Addr) (c0_0:Nat) (l0_0:List (S83)) (a0_1:Int) (a0_2:Int) (a0_3:Int) (a0_4:Int) (r:Int) (w:World) (hr0_0:Kd.C k83 w A0_0 l0_0.length l0_0) (hc0_0:l0_0.length≤c0_0) (h:ss_far.f k l0_0 a0_1 a0_2 a0_3 a0_4=some r):
  Calls Tryz.prog 59 #[.agg #[.slice A0_0 l0_0.length c0_0,.int .i64 a0_1,.int .i64 a0_2,.int .i64 a0_3,.int .i64 a0_4]] w fun e w'=>e=.returned (.int .i64 r)∧Below w.heap.size w w':=by
 have hu96:=Tryz.underlying96
 have HR0_0:=A0_ hr0_0;have HC0_0:=A0_ hc0_0;clear hr0_0 hc0_0
 have HB:=A0_ (Below.refl w.heap.size w)
 have H:((ss_moon.f k l0_0 a0_1 a0_2 a0_3 a0_4).bind fun t242=>((ss_node.f l0_0 a0_1 a0_2 a0_3 a0_4).bind fun t243=>((sky_floor.f (wrap64 (t242 - t243)) 10800).bind fun bt244=>(some (mn bt244.2 (wrap64 (10800 - bt244.2)))))))=some r:=h
 clear h;replace H:=Option.bind_eq_some_iff.mp H;obtain ⟨t242,A20,H⟩:=H
 replace H:((ss_node.f l0_0 a0_1 a0_2 a0_3 a0_4).bind fun t243=>((sky_floor.f (wrap64 (t242 - t243)) 10800).bind fun bt244=>(some (mn bt244.2 (wrap64 (10800 - bt244.2))))))=some r:=H
 have A2:=A0_ A20;clear A20;replace H:=Option.bind_eq_some_iff.mp H;obtain ⟨t243,A30,H⟩:=H
 replace H:((sky_floor.f (wrap64 (t242 - t243)) 10800).bind fun bt244=>(some (mn bt244.2 (wrap64 (10800 - bt244.2)))))=some r:=H
 have A3:=A0_ A30;clear A30;replace H:=Option.bind_eq_some_iff.mp H
 obtain ⟨⟨t244,t245⟩,A40,H⟩:=H
 replace H:(some (mn t245 (wrap64 (10800 - t245))))=some r:=H
 have A4:=A0_ A40;clear A40
 obtain ⟨ji5,hji5⟩:∃ j_:Int,(mn t245 (wrap64 (10800 - t245)))=j_:=⟨_,rfl⟩
 replace H:(some ji5)=some r:=by first|(rw [hji5] at H;exact H)|(simp only [hji5] at H ⊢;exact H)
 (try rw [hji5] at A2)
 (try rw [hji5] at A3)
 (try rw [hji5] at A4)
 have hji5_:(if (wrap64 (10800 - t245))<t245 then (wrap64 (10800 - t245)) else t245)=ji5:=hji5
 obtain rfl:=Option.some.inj H
 go_enter Tryz.func59,Tryz.ntmps59
 try go_wp2_with (first|((with_reducible refine gate_dst (N:=1) rfl ?_);refine box_event ?hg (N:=1) ?hd (cs:=#[.slice A0_0 l0_0.length c0_0,.int .i64 a0_1,.int .i64 a0_2,.int .i64 a0_3,.int .i64 a0_4]) (t:=96) ?hr ?_;(case hd=>rfl);(case hg=>rfl);(case hr=>first|(go_simp;done)|(go_simp;rfl));intro gb241 hg w6 hbox hb;have n0_:=A0_ (below_step y0_ hb);have n1_:=A0_ (hbox);have n2_:=A0_ ((by rw [hg];exact (below_size y0_):w.heap.size≤gb241));have n3_:=A0_ ((by rw [hg];exact (below_size y0_):w.heap.size≤gb241));clear HB;have HB:=n0_;have BK241:=n1_;have GW241:=n2_;have GE241:=n3_;clear n0_ n1_ n2_ n3_;clear hb hbox hg))
 have n0_:=A0_ (blk_drew BK241.out);have n1_:=A0_ (below_drew1 HB.out);clear BK241;clear HB;have BK241:=n0_;have HB:=n1_;clear n0_ n1_
 refine start_ (n:=11) (S:=fun w'=>w'.cell? ⟨gb241,0,none⟩=some (.slice A0_0 l0_0.length c0_0)∧w'.cell? ⟨gb241,1,none⟩=some (.int .i64 a0_1)∧w'.cell? ⟨gb241,2,none⟩=some (.int .i64 a0_2)∧w'.cell? ⟨gb241,3,none⟩=some (.int .i64 a0_3)∧w'.cell? ⟨gb241,4,none⟩=some (.int .i64 a0_4)) (ds:=[]) #[false,false,false,false,false,false,false,false,false,false,false] (by kernel_rfl) rfl rfl ⟨(blk_cell BK241.out 0).trans rfl,(blk_cell BK241.out 1).trans rfl,(blk_cell BK241.out 2).trans rfl,(blk_cell BK241.out 3).trans rfl,(blk_cell BK241.out 4).trans rfl⟩ (fun hHeld=>?_);refine with_tabW ss_far.tab1 ss_far.bits1 (fun HT_ HW_=>?_)
 generalize w6.drew=w7 at BK241 HB hHeld ⊢
 refine ta_ (i:=0) (N:=some 6) ?_;refine ta_ (i:=2) (N:=some 8) ?_
 refine one_ (i:=1) (N:=some 7) #[true,true,true,false,false,false,false,false,false,false,false] rfl rfl (one_of HT_.out (by kernel_rfl)) (by decide) (fun K hK=>?_)
 refine goes_ Tryz.func105 (by kernel_rfl) rfl #[.agg #[.slice A0_0 l0_0.length c0_0,.int .i64 a0_1,.int .i64 a0_2,.int .i64 a0_3,.int .i64 a0_4]] (by rfl) rfl rfl y1_ ?_
 with_reducible refine (ss_moon.calls k _ _ l0_0 a0_1 a0_2 a0_3 a0_4 t242 _ ?side1 ?side2 A2.out).mono ?_
 (case side1=>repeat (first|exact (Kd.C_below HR0_0.out HB.out)|(with_reducible refine Kd.C_alloc ?_ _)|(with_reducible refine Kd.C_drewN ?_ _)|(with_reducible refine Kd.C_drew ?_)))
 (case side2=>exact HC0_0.out)
 rintro e w8 ⟨rfl,hb⟩
 refine ⟨_,rfl,?_⟩
 have n0_:=A0_ (blk_below (g:=gb241) (o:=.cells #[.slice A0_0 l0_0.length c0_0,.int .i64 a0_1,.int .i64 a0_2,.int .i64 a0_3,.int .i64 a0_4] 96 (0,0)) (bd_ BK241.out) hb);have n1_:=A0_ (below_step y4e_ hb);clear BK241;clear HB;have BK241:=n0_;have HB:=n1_;clear n0_ n1_;(try clear hb);(try clear hb2);(try clear hk);(try clear hi)
 refine hK.out _ _ ⟨(blk_cell BK241.out 0).trans rfl,(blk_cell BK241.out 1).trans rfl,(blk_cell BK241.out 2).trans rfl,(blk_cell BK241.out 3).trans rfl,(blk_cell BK241.out 4).trans rfl⟩ (fun hHeld=>?_)
 clear hK K
 refine norm_ (a':=?_) ?_ ?_
 rotate_left
 ·show Act.put _ (some 7) _=_
  simp only [Act.put,List.setIfInBounds_toArray,List.set_cons_zero,List.set_cons_succ,i64_w,i32_w]
  rfl
 refine one_ (i:=3) (N:=some 9) #[true,true,true,true,false,false,false,false,false,false,false] rfl rfl (one_of HT_.out (by kernel_rfl)) (by decide) (fun K hK=>?_)
 refine goes_ Tryz.func65 (by kernel_rfl) rfl #[.agg #[.slice A0_0 l0_0.length c0_0,.int .i64 a0_1,.int .i64 a0_2,.int .i64 a0_3,.int .i64 a0_4]] (by rfl) rfl rfl y1_ ?_
 with_reducible refine (ss_node.calls _ _ l0_0 a0_1 a0_2 a0_3 a0_4 t243 _ ?side1 ?side2 A3.out).mono ?_
 (case side1=>repeat (first|exact (Kd.C_below HR0_0.out HB.out)|(with_reducible refine Kd.C_alloc ?_ _)|(with_reducible refine Kd.C_drewN ?_ _)|(with_reducible refine Kd.C_drew ?_)))
 (case side2=>exact HC0_0.out)
 rintro e w9 ⟨rfl,hb⟩
 refine ⟨_,rfl,?_⟩
 have n0_:=A0_ (blk_below (g:=gb241) (o:=.cells #[.slice A0_0 l0_0.length c0_0,.int .i64 a0_1,.int .i64 a0_2,.int .i64 a0_3,.int .i64 a0_4] 96 (0,0)) (bd_ BK241.out) hb);have n1_:=A0_ (below_step y4e_ hb);clear BK241;clear HB;have BK241:=n0_;have HB:=n1_;clear n0_ n1_;(try clear hb);(try clear hb2);(try clear hk);(try clear hi)
 refine hK.out _ _ ⟨(blk_cell BK241.out 0).trans rfl,(blk_cell BK241.out 1).trans rfl,(blk_cell BK241.out 2).trans rfl,(blk_cell BK241.out 3).trans rfl,(blk_cell BK241.out 4).trans rfl⟩ (fun hHeld=>?_)
 clear hK K
 refine norm_ (a':=?_) ?_ ?_
 rotate_left
 ·show Act.put _ (some 9) _=_
  simp only [Act.put,List.setIfInBounds_toArray,List.set_cons_zero,List.set_cons_succ,i64_w,i32_w]
  rfl
 refine pu_ (i:=4) (N:=some 10) ?_
 refine one_ (i:=5) (N:=some 11) #[true,true,true,true,true,true,false,false,false,false,false] rfl rfl (one_of HT_.out (by kernel_rfl)) (by decide) (fun K hK=>?_)
 refine goes_ Tryz.func104 (by kernel_rfl) rfl #[.int .i64 (wrap64 (t242 - t243)),.int .i64 10800] (by rfl) rfl rfl y1_ ?_
 with_reducible refine (sky_floor.calls (wrap64 (t242 - t243)) 10800 t244 t245 _ A4.out).mono ?_
 rintro e w' ⟨rfl,⟨nd,rfl⟩⟩
 refine ⟨_,rfl,?_⟩
 refine hK.out _ _ ⟨(blk_cell BK241.out 0).trans rfl,(blk_cell BK241.out 1).trans rfl,(blk_cell BK241.out 2).trans rfl,(blk_cell BK241.out 3).trans rfl,(blk_cell BK241.out 4).trans rfl⟩ (fun hHeld=>?_)
 clear hK K
 refine norm_ (a':=?_) ?_ ?_
 rotate_left
 ·show Act.put _ (some 11) _=_
  simp only [Act.put,List.setIfInBounds_toArray,List.set_cons_zero,List.set_cons_succ,i64_w,i32_w]
  rfl
 refine pu_ (i:=6) (N:=some 5) ?_;refine pu_ (i:=7) (N:=some 12) ?_;refine pu_ (i:=8) (N:=some 13) ?_;refine pu_ (i:=9) (N:=some 3) ?_;refine pu_ (i:=10) (N:=some 4) ?_
 refine done_ (done_of HT_.out (by kernel_rfl)) ?_
 try go_wp2
 go_ret
 exact ⟨by first|rfl|(simp [errW_none,errW_some] <;> rfl)|(simp only [← hji5];first|rfl|(simp [errW_none,errW_some] <;> rfl))|(simp [*,errW_none,errW_some] <;> rfl),y4e_⟩
def tr_SameEclipses.l0:Nat→List (S54)→List (S54)→Int→Option (Bool)
 |0,_,_,_=>none
 |k+1,x0,x1,x5=>if x5<(x0.length:Int) then (if 0≤x5 then (if x5<(x1.length:Int) then (if (!(((rd_T54 x0 x5).f0) == ((rd_T54 x1 x5).f0)) || (!(((rd_T54 x0 x5).f1) == ((rd_T54 x1 x5).f1)) || (!(((rd_T54 x0 x5).f2) == ((rd_T54 x1 x5).f2)))))=true then (some false) else (tr_SameEclipses.l0 k x0 x1 (wrap64 (x5+1)))) else (none)) else (none)) else (some true)
def tr_SameEclipses.f (k:Nat) (l0:List (S54)) (l1:List (S54)):Option (Bool):=if (l0.length:Int)=(l1.length:Int) then (tr_SameEclipses.l0 k l0 l1 0) else (some false)
set_option maxHeartbeats 8000000 in
set_option maxRecDepth 100000 in
theorem tr_SameEclipses.calls (k:Nat) (A0:Option Addr) (c0:Nat) (l0:List (S54)) (A1:Option Addr) (c1:Nat) (l1:List (S54)) (r:Bool) (w:World) (hr0:Kd.C k54 w A0 l0.length l0) (hc0:l0.length≤c0) (hr1:Kd.C k54 w A1 l1.length l1) (hc1:l1.length≤c1) (h:tr_SameEclipses.f k l0 l1=some r):
  Calls Tryz.prog 19 #[.slice A0 l0.length c0,.slice A1 l1.length c1] w fun e w'=>e=.returned (.bool r)∧Drawn0 w w':=by
 have hu54:=Tryz.underlying54
 have HR0:=A0_ hr0;have HC0:=A0_ hc0;clear hr0 hc0;have HR1:=A0_ hr1;have HC1:=A0_ hc1;clear hr1 hc1
 have H:(if (l0.length:Int)=(l1.length:Int) then (tr_SameEclipses.l0 k l0 l1 0) else (some false))=some r:=h
 clear h
 by_cases c3:(l0.length:Int)=(l1.length:Int)
 ·rw [if_pos c3] at H
  have c3b0:((l0.length:Int) == (l1.length:Int))=true:=beq_iff_eq.mpr c3
  have c3b1:((l0.length:Int) != (l1.length:Int))=false:=bne_eq_false_iff_eq.mpr c3
  have c3b2:(l0.length == l1.length)=true:=by first|simpa using c3|(simp at c3 ⊢;omega)
  clear c3
  have H':=A0_ H
  clear H
  go_enter Tryz.func19,Tryz.ntmps19
  go_wp2
  repeat (go_quiet (fail);try go_wp2)
  go_loopg [5] k (fun kq v5 w'=>∃ (x5_1:Int),v5=.int .i64 x5_1∧Aside0 (tr_SameEclipses.l0 kq l0 l1 x5_1=some r)∧Aside0 (kq≤k)∧Drawn0 w w')
  case atStart=>exact ⟨(0),y5_,H',⟨Nat.le_refl _⟩,yt_⟩
  case round=>
   clear H'
   (try clear c1);(try clear p2);(try clear c3);(try clear c3b0);(try clear c3b1);(try clear c3b2)
   obtain ⟨x5_1,rfl,HA,HK1,⟨m1,rfl⟩⟩:=hrel
   cases gk with
   |zero=>exact absurd HA.out (by simp [tr_SameEclipses.l0])
   |succ k1=>
    have H:=HA.out
    clear HA
    simp only [tr_SameEclipses.l0] at H
    by_cases c4:x5_1<(l0.length:Int)
    ·rw [if_pos c4] at H;have c4b0:decide (x5_1<(l0.length:Int))=true:=decide_eq_true c4;clear c4
     by_cases c5:0≤x5_1
     ·rw [if_pos c5] at H;have c5b0:decide (0≤x5_1)=true:=decide_eq_true c5;clear c5
      by_cases c6:x5_1<(l1.length:Int)
      ·rw [if_pos c6] at H;have c6b0:decide (x5_1<(l1.length:Int))=true:=decide_eq_true c6;clear c6
       by_cases c7:(!(((rd_T54 l0 x5_1).f0) == ((rd_T54 l1 x5_1).f0)) || (!(((rd_T54 l0 x5_1).f1) == ((rd_T54 l1 x5_1).f1)) || (!(((rd_T54 l0 x5_1).f2) == ((rd_T54 l1 x5_1).f2)))))=true
       ·rw [if_pos c7] at H
        have c7b0:(!(((rd_T54 l0 x5_1).f0) == ((rd_T54 l1 x5_1).f0)) || (!(((rd_T54 l0 x5_1).f1) == ((rd_T54 l1 x5_1).f1)) || (!(((rd_T54 l0 x5_1).f2) == ((rd_T54 l1 x5_1).f2)))))=true:=c7
        clear c7;obtain rfl:=Option.some.inj H
        have p265:0≤(x5_1:Int):=of_decide_eq_true y6_
        have q265:x5_1<(l0.length:Int):=of_decide_eq_true y6_
        obtain ⟨ad265,e265,hx265_0,hx265_1,hx265_2⟩:=at_T54 HR0.out x5_1 p265 q265
        cases e265
        replace p265:=eq_true p265
        replace q265:=eq_true q265
        have p266:0≤(x5_1:Int):=of_decide_eq_true y6_
        have q266:x5_1<(l1.length:Int):=of_decide_eq_true y6_
        obtain ⟨ad266,e266,hx266_0,hx266_1,hx266_2⟩:=at_T54 HR1.out x5_1 p266 q266
        cases e266
        replace p266:=eq_true p266
        replace q266:=eq_true q266
        go_wp2
        repeat (go_quiet (fail);try go_wp2)
        go_ret
        exact ⟨y5_,yt_⟩
       ·rw [if_neg c7] at H
        have c7b0:(!(((rd_T54 l0 x5_1).f0) == ((rd_T54 l1 x5_1).f0)) || (!(((rd_T54 l0 x5_1).f1) == ((rd_T54 l1 x5_1).f1)) || (!(((rd_T54 l0 x5_1).f2) == ((rd_T54 l1 x5_1).f2)))))=false:=by simpa using c7
        clear c7
        have H':=A0_ H
        clear H
        have p265:0≤(x5_1:Int):=of_decide_eq_true y6_
        have q265:x5_1<(l0.length:Int):=of_decide_eq_true y6_
        obtain ⟨ad265,e265,hx265_0,hx265_1,hx265_2⟩:=at_T54 HR0.out x5_1 p265 q265
        cases e265
        replace p265:=eq_true p265
        replace q265:=eq_true q265
        have p266:0≤(x5_1:Int):=of_decide_eq_true y6_
        have q266:x5_1<(l1.length:Int):=of_decide_eq_true y6_
        obtain ⟨ad266,e266,hx266_0,hx266_1,hx266_2⟩:=at_T54 HR1.out x5_1 p266 q266
        cases e266
        replace p266:=eq_true p266
        replace q266:=eq_true q266
        go_wp2
        repeat (go_quiet (fail);try go_wp2)
        go_roundg k1
        case measure=>have:=HK1.out;omega
        case rel=>exact ⟨(wrap64 (x5_1+1)),y5_,H',⟨by have:=HK1.out;omega⟩,yt_⟩
      ·rw [if_neg c6] at H;exact absurd H (by simp)
     ·rw [if_neg c5] at H;exact absurd H (by simp)
    ·rw [if_neg c4] at H;have c4b0:decide (x5_1<(l0.length:Int))=false:=decide_eq_false c4;clear c4;obtain rfl:=Option.some.inj H;go_wp2
     repeat (go_quiet (fail);try go_wp2)
     go_ret
     exact ⟨y5_,yt_⟩
 ·rw [if_neg c3] at H
  have c3b0:((l0.length:Int) == (l1.length:Int))=false:=beq_eq_false_iff_ne.mpr c3
  have c3b1:((l0.length:Int) != (l1.length:Int))=true:=bne_iff_ne.mpr c3
  have c3b2:(l0.length == l1.length)=false:=by first|simpa using c3|(simp at c3 ⊢;omega)
  obtain rfl:=Option.some.inj H
  go_enter Tryz.func19,Tryz.ntmps19
  go_wp2
  repeat (go_quiet (fail);try go_wp2)
  go_ret
  exact ⟨y5_,yt_⟩
def sky_isBody.f (l0_0:List (S83)) (a0_1:Int) (a0_2:Int) (a0_3:Int) (a1:Int):Option (Bool):=(sky_in.f a1 0 (wrap64 ((l0_0.length:Int) - 1))).bind fun t312=>(some t312)
set_option maxHeartbeats 8000000 in
set_option maxRecDepth 100000 in
theorem sky_isBody.calls (A0_0:Option Addr) (c0_0:Nat) (l0_0:List (S83)) (a0_1:Int) (a0_2:Int) (a0_3:Int) (a1:Int) (r:Bool) (w:World) (hr0_0:Kd.C k83 w A0_0 l0_0.length l0_0) (hc0_0:l0_0.length≤c0_0) (h:sky_isBody.f l0_0 a0_1 a0_2 a0_3 a1=some r):
  Calls Tryz.prog 61 #[.agg #[.slice A0_0 l0_0.length c0_0,.int .i64 a0_1,.int .i64 a0_2,.int .i64 a0_3],.int .i64 a1] w fun e w'=>e=.returned (.bool r)∧Below w.heap.size w w':=by
 have hu28:=Tryz.underlying28
 have HR0_0:=A0_ hr0_0;have HC0_0:=A0_ hc0_0;clear hr0_0 hc0_0
 have HB:=A0_ (Below.refl w.heap.size w)
 have H:((sky_in.f a1 0 (wrap64 ((l0_0.length:Int) - 1))).bind fun t312=>(some t312))=some r:=h
 clear h;replace H:=Option.bind_eq_some_iff.mp H;obtain ⟨t312,A30,H⟩:=H
 replace H:(some t312)=some r:=H
 have A3:=A0_ A30;clear A30;obtain rfl:=Option.some.inj H
 go_enter Tryz.func61,Tryz.ntmps61
 go_wp2_with (first|((with_reducible refine gate_dst (N:=2) rfl ?_);refine box_event ?hg (N:=2) ?hd (cs:=#[.slice A0_0 l0_0.length c0_0,.int .i64 a0_1,.int .i64 a0_2,.int .i64 a0_3]) (t:=28) ?hr ?_;(case hd=>rfl);(case hg=>rfl);(case hr=>first|(go_simp;done)|(go_simp;rfl));intro gb311 hg w4 hbox hb;have n0_:=A0_ (below_step y0_ hb);have n1_:=A0_ (hbox);have n2_:=A0_ ((by rw [hg];exact (below_size y0_):w.heap.size≤gb311));have n3_:=A0_ ((by rw [hg];exact (below_size y0_):w.heap.size≤gb311));clear HB;have HB:=n0_;have BK311:=n1_;have GW311:=n2_;have GE311:=n3_;clear n0_ n1_ n2_ n3_;clear hb hbox hg;obtain ⟨hcz5_0,hcz5_1,hcz5_2,hcz5_3,hfz5_0,hfz5_1,hfz5_2,hfz5_3⟩:=bq4_ BK311.out)|((with_reducible refine gate_callee (f:=71) rfl ?_);refine goesL_ (some 10) rfl rfl Tryz.func71 (by kernel_rfl) rfl #[.int .i64 a1,.int .i64 0,.int .i64 (wrap64 ((l0_0.length:Int) - 1))] rfl y1_ ?_;(with_reducible refine (sky_in.calls a1 0 (wrap64 ((l0_0.length:Int) - 1)) t312 _ A3.out).mono ?_);rintro e w' ⟨rfl,⟨nd,rfl⟩⟩;refine ⟨_,rfl,?_⟩))
 go_ret
 exact ⟨y3_,(by repeat (first|(with_reducible first|exact HB.out|apply below_alloc|apply pw_below_drewN|apply below_drew1|refine below_set ?_ GE311.out)|exact HB.out))⟩
def sky_isDay.f (a0:Int):Option (Bool):=(sky_in.f a0 0 20000).bind fun t313=>(some t313)
set_option maxHeartbeats 8000000 in
set_option maxRecDepth 100000 in
theorem sky_isDay.calls (a0:Int) (r:Bool) (w:World) (h:sky_isDay.f a0=some r):
  Calls Tryz.prog 62 #[.int .i64 a0] w fun e w'=>e=.returned (.bool r)∧Drawn0 w w':=by
 have H:((sky_in.f a0 0 20000).bind fun t313=>(some t313))=some r:=h
 clear h;replace H:=Option.bind_eq_some_iff.mp H;obtain ⟨t313,A20,H⟩:=H
 replace H:(some t313)=some r:=H
 have A2:=A0_ A20;clear A20;obtain rfl:=Option.some.inj H
 go_enter Tryz.func62,Tryz.ntmps62
 go_wp2_with (first|((with_reducible refine gate_callee (f:=71) rfl ?_);refine goesL_ (some 4) rfl rfl Tryz.func71 (by kernel_rfl) rfl #[.int .i64 a0,.int .i64 0,.int .i64 20000] rfl y1_ ?_;(with_reducible refine (sky_in.calls a0 0 20000 t313 _ A2.out).mono ?_);rintro e w' ⟨rfl,⟨nd,rfl⟩⟩;refine ⟨_,rfl,?_⟩))
 go_ret
 exact ⟨y5_,yt_⟩
def sky_Place.j0:Nat→Int→Int→Bool→List (S83)→Int→Int→Int→Option (Int × Int)
 |0,_,_,_,_,_,_,_=>none
 |k+1,x1,x2,x21,x315000,x315001,x315002,x315003=>if x21=true then (some (0,2)) else ((ss_way.f k x315000 x315001 x315002 x315003 x2 x1).bind fun t318=>((sky_around.f t318).bind fun t319=>(some (t319,0))))
def sky_Place.f (k:Nat) (l0_0:List (S83)) (a0_1:Int) (a0_2:Int) (a0_3:Int) (a1:Int) (a2:Int):Option (Int × Int):=(sky_isSky.f k l0_0 a0_1 a0_2 a0_3).bind fun t315=>(if t315=true then ((sky_isBody.f l0_0 a0_1 a0_2 a0_3 a1).bind fun t316=>(if t316=true then ((sky_isDay.f a2).bind fun t317=>(sky_Place.j0 k a1 a2 (!t317) l0_0 a0_1 a0_2 a0_3)) else (sky_Place.j0 k a1 a2 true l0_0 a0_1 a0_2 a0_3))) else (sky_Place.j0 k a1 a2 true l0_0 a0_1 a0_2 a0_3))
set_option maxHeartbeats 8000000 in
set_option maxRecDepth 100000 in
theorem sky_Place.calls (k:Nat) (A0_0:Option Addr) (c0_0:Nat) (l0_0:List (S83)) (a0_1:Int) (a0_2:Int) (a0_3:Int) (a1:Int) (a2:Int) (r1:Int) (r2:Int) (w:World) (hr0_0:Kd.C k83 w A0_0 l0_0.length l0_0) (hc0_0:l0_0.length≤c0_0) (h:sky_Place.f k l0_0 a0_1 a0_2 a0_3 a1 a2=some (r1,r2)):
  Calls Tryz.prog 21 #[.agg #[.slice A0_0 l0_0.length c0_0,.int .i64 a0_1,.int .i64 a0_2,.int .i64 a0_3],.int .i64 a1,.int .i64 a2] w fun e w'=>e=.returned (.tuple #[.int .i64 r1,.int .i64 r2])∧Below w.heap.size w w':=by
 have hu28:=Tryz.underlying28
 have hu96:=Tryz.underlying96
 have HR0_0:=A0_ hr0_0;have HC0_0:=A0_ hc0_0;clear hr0_0 hc0_0
 have HB:=A0_ (Below.refl w.heap.size w)
 have H:((sky_isSky.f k l0_0 a0_1 a0_2 a0_3).bind fun t315=>(if t315=true then ((sky_isBody.f l0_0 a0_1 a0_2 a0_3 a1).bind fun t316=>(if t316=true then ((sky_isDay.f a2).bind fun t317=>(sky_Place.j0 k a1 a2 (!t317) l0_0 a0_1 a0_2 a0_3)) else (sky_Place.j0 k a1 a2 true l0_0 a0_1 a0_2 a0_3))) else (sky_Place.j0 k a1 a2 true l0_0 a0_1 a0_2 a0_3)))=some (r1,r2):=h
 clear h;have HC4:=A0_ H;clear H
 go_enter Tryz.func21,Tryz.ntmps21
 go_upto_region 1 with (first|((with_reducible refine gate_dst (N:=3) rfl ?_);refine box_event ?hg (N:=3) ?hd (cs:=#[.slice A0_0 l0_0.length c0_0,.int .i64 a0_1,.int .i64 a0_2,.int .i64 a0_3]) (t:=28) ?hr ?_;(case hd=>rfl);(case hg=>rfl);(case hr=>first|(go_simp;done)|(go_simp;rfl));intro gb314 hg w5 hbox hb;have n0_:=A0_ (below_step y0_ hb);have n1_:=A0_ (hbox);have n2_:=A0_ ((by rw [hg];exact (below_size y0_):w.heap.size≤gb314));have n3_:=A0_ ((by rw [hg];exact (below_size y0_):w.heap.size≤gb314));clear HB;have HB:=n0_;have BK314:=n1_;have GW314:=n2_;have GE314:=n3_;clear n0_ n1_ n2_ n3_;clear hb hbox hg))
 (try simp only [Act.put,List.setIfInBounds_toArray,List.set_cons_zero,List.set_cons_succ])
 go_cut [21] (fun v21 wc=>∃ (kq:Nat) (x21_3:Bool),v21=.bool x21_3∧Aside0 (sky_Place.j0 kq a1 a2 x21_3 l0_0 a0_1 a0_2 a0_3=some (r1,r2))∧Aside0 (kq≤k)∧Aside0 (wc.heap[gb314]?=some (.cells #[(.slice A0_0 l0_0.length c0_0),.int .i64 a0_1,.int .i64 a0_2,.int .i64 a0_3] 28 (0,0)))∧Aside0 (Below w.heap.size w wc))
 case first=>
  have H:=HC4.out
  clear HC4;replace H:=Option.bind_eq_some_iff.mp H;obtain ⟨t315,A60,H⟩:=H
  replace H:(if t315=true then ((sky_isBody.f l0_0 a0_1 a0_2 a0_3 a1).bind fun t316=>(if t316=true then ((sky_isDay.f a2).bind fun t317=>(sky_Place.j0 k a1 a2 (!t317) l0_0 a0_1 a0_2 a0_3)) else (sky_Place.j0 k a1 a2 true l0_0 a0_1 a0_2 a0_3))) else (sky_Place.j0 k a1 a2 true l0_0 a0_1 a0_2 a0_3))=some (r1,r2):=H
  have A6:=A0_ A60;clear A60
  by_cases c7:t315=true
  ·subst c7
   have H1:((sky_isBody.f l0_0 a0_1 a0_2 a0_3 a1).bind fun t316=>(if t316=true then ((sky_isDay.f a2).bind fun t317=>(sky_Place.j0 k a1 a2 (!t317) l0_0 a0_1 a0_2 a0_3)) else (sky_Place.j0 k a1 a2 true l0_0 a0_1 a0_2 a0_3)))=some (r1,r2):=by rw [if_pos rfl] at H;exact H
   clear H;have H:=H1;clear H1;replace H:=Option.bind_eq_some_iff.mp H;obtain ⟨t316,A80,H⟩:=H
   replace H:(if t316=true then ((sky_isDay.f a2).bind fun t317=>(sky_Place.j0 k a1 a2 (!t317) l0_0 a0_1 a0_2 a0_3)) else (sky_Place.j0 k a1 a2 true l0_0 a0_1 a0_2 a0_3))=some (r1,r2):=H
   have A8:=A0_ A80;clear A80
   by_cases c9:t316=true
   ·subst c9
    have H1:((sky_isDay.f a2).bind fun t317=>(sky_Place.j0 k a1 a2 (!t317) l0_0 a0_1 a0_2 a0_3))=some (r1,r2):=by rw [if_pos rfl] at H;exact H
    clear H;have H:=H1;clear H1;replace H:=Option.bind_eq_some_iff.mp H;obtain ⟨t317,A100,H⟩:=H
    replace H:(sky_Place.j0 k a1 a2 (!t317) l0_0 a0_1 a0_2 a0_3)=some (r1,r2):=H
    have A10:=A0_ A100;clear A100
    have H':=A0_ H
    clear H;obtain ⟨hcz11_0,hcz11_1,hcz11_2,hcz11_3,hfz11_0,hfz11_1,hfz11_2,hfz11_3⟩:=bq4_ BK314.out
    go_wp2_with (first|((with_reducible refine gate_callee (f:=52) rfl ?_);refine goesL_ (some 9) rfl rfl Tryz.func52 (by kernel_rfl) rfl #[.agg #[.slice A0_0 l0_0.length c0_0,.int .i64 a0_1,.int .i64 a0_2,.int .i64 a0_3]] rfl y1_ ?_;(with_reducible refine (sky_isSky.calls k _ _ l0_0 a0_1 a0_2 a0_3 true _ ?side1 ?side2 A6.out).mono ?_);(case side1=>repeat (first|exact (Kd.C_below HR0_0.out HB.out)|(with_reducible refine Kd.C_alloc ?_ _)|(with_reducible refine Kd.C_drewN ?_ _)|(with_reducible refine Kd.C_drew ?_)));(case side2=>exact HC0_0.out);rintro e w12 ⟨rfl,hb⟩;refine ⟨_,rfl,?_⟩;have n0_:=A0_ (blk_below (g:=gb314) (o:=.cells #[.slice A0_0 l0_0.length c0_0,.int .i64 a0_1,.int .i64 a0_2,.int .i64 a0_3] 28 (0,0)) (bd_ BK314.out) hb);have n1_:=A0_ (below_step y27_ hb);clear BK314;clear HB;have BK314:=n0_;have HB:=n1_;clear n0_ n1_;(try clear hb);(try clear hb2);(try clear hk);(try clear hi);obtain ⟨hcz13_0,hcz13_1,hcz13_2,hcz13_3,hfz13_0,hfz13_1,hfz13_2,hfz13_3⟩:=bq4_ BK314.out)|(go_at_call 61;(with_reducible refine (sky_isBody.calls _ _ l0_0 a0_1 a0_2 a0_3 a1 true _ ?side1 ?side2 A8.out).mono ?_);(case side1=>repeat (first|exact (Kd.C_below HR0_0.out HB.out)|(with_reducible refine Kd.C_alloc ?_ _)|(with_reducible refine Kd.C_drewN ?_ _)|(with_reducible refine Kd.C_drew ?_)));(case side2=>exact HC0_0.out);rintro e w14 ⟨rfl,hb⟩;have n0_:=A0_ (blk_below (g:=gb314) (o:=.cells #[.slice A0_0 l0_0.length c0_0,.int .i64 a0_1,.int .i64 a0_2,.int .i64 a0_3] 28 (0,0)) (bd_ BK314.out) hb);have n1_:=A0_ (below_step y27_ hb);clear BK314;clear HB;have BK314:=n0_;have HB:=n1_;clear n0_ n1_;(try clear hb);(try clear hb2);(try clear hk);(try clear hi))|(go_at_call 62;(with_reducible refine (sky_isDay.calls a2 t317 _ A10.out).mono ?_);rintro e w' ⟨rfl,⟨nd,rfl⟩⟩))
    go_meet
    case rel=>exact ⟨_,(!t317),y5_,H',⟨by first|omega|exact Nat.le_refl _⟩,⟨by (with_reducible repeat (first|refine blk_drewN ?_ _|refine blk_drew ?_|refine blk_alloc ?_ _));exact BK314.out⟩,⟨y27_⟩⟩
   ·replace c9:=Bool.eq_false_iff.mpr c9;subst c9
    have H1:(sky_Place.j0 k a1 a2 true l0_0 a0_1 a0_2 a0_3)=some (r1,r2):=by rw [if_neg (show ¬ (false=true) by decide)] at H;exact H
    clear H;have H:=H1;clear H1
    have H':=A0_ H
    clear H;obtain ⟨hcz15_0,hcz15_1,hcz15_2,hcz15_3,hfz15_0,hfz15_1,hfz15_2,hfz15_3⟩:=bq4_ BK314.out
    go_wp2_with (first|((with_reducible refine gate_callee (f:=52) rfl ?_);refine goesL_ (some 9) rfl rfl Tryz.func52 (by kernel_rfl) rfl #[.agg #[.slice A0_0 l0_0.length c0_0,.int .i64 a0_1,.int .i64 a0_2,.int .i64 a0_3]] rfl y1_ ?_;(with_reducible refine (sky_isSky.calls k _ _ l0_0 a0_1 a0_2 a0_3 true _ ?side1 ?side2 A6.out).mono ?_);(case side1=>repeat (first|exact (Kd.C_below HR0_0.out HB.out)|(with_reducible refine Kd.C_alloc ?_ _)|(with_reducible refine Kd.C_drewN ?_ _)|(with_reducible refine Kd.C_drew ?_)));(case side2=>exact HC0_0.out);rintro e w16 ⟨rfl,hb⟩;refine ⟨_,rfl,?_⟩;have n0_:=A0_ (blk_below (g:=gb314) (o:=.cells #[.slice A0_0 l0_0.length c0_0,.int .i64 a0_1,.int .i64 a0_2,.int .i64 a0_3] 28 (0,0)) (bd_ BK314.out) hb);have n1_:=A0_ (below_step y27_ hb);clear BK314;clear HB;have BK314:=n0_;have HB:=n1_;clear n0_ n1_;(try clear hb);(try clear hb2);(try clear hk);(try clear hi);obtain ⟨hcz17_0,hcz17_1,hcz17_2,hcz17_3,hfz17_0,hfz17_1,hfz17_2,hfz17_3⟩:=bq4_ BK314.out)|(go_at_call 61;(with_reducible refine (sky_isBody.calls _ _ l0_0 a0_1 a0_2 a0_3 a1 false _ ?side1 ?side2 A8.out).mono ?_);(case side1=>repeat (first|exact (Kd.C_below HR0_0.out HB.out)|(with_reducible refine Kd.C_alloc ?_ _)|(with_reducible refine Kd.C_drewN ?_ _)|(with_reducible refine Kd.C_drew ?_)));(case side2=>exact HC0_0.out);rintro e w18 ⟨rfl,hb⟩;have n0_:=A0_ (blk_below (g:=gb314) (o:=.cells #[.slice A0_0 l0_0.length c0_0,.int .i64 a0_1,.int .i64 a0_2,.int .i64 a0_3] 28 (0,0)) (bd_ BK314.out) hb);have n1_:=A0_ (below_step y27_ hb);clear BK314;clear HB;have BK314:=n0_;have HB:=n1_;clear n0_ n1_;(try clear hb);(try clear hb2);(try clear hk);(try clear hi)))
    go_meet
    case rel=>exact ⟨_,(true),y5_,H',⟨by first|omega|exact Nat.le_refl _⟩,⟨by (with_reducible repeat (first|refine blk_drewN ?_ _|refine blk_drew ?_|refine blk_alloc ?_ _));exact BK314.out⟩,⟨y27_⟩⟩
  ·replace c7:=Bool.eq_false_iff.mpr c7;subst c7
   have H1:(sky_Place.j0 k a1 a2 true l0_0 a0_1 a0_2 a0_3)=some (r1,r2):=by rw [if_neg (show ¬ (false=true) by decide)] at H;exact H
   clear H;have H:=H1;clear H1
   have H':=A0_ H
   clear H;obtain ⟨hcz19_0,hcz19_1,hcz19_2,hcz19_3,hfz19_0,hfz19_1,hfz19_2,hfz19_3⟩:=bq4_ BK314.out
   go_wp2_with (first|((with_reducible refine gate_callee (f:=52) rfl ?_);refine goesL_ (some 9) rfl rfl Tryz.func52 (by kernel_rfl) rfl #[.agg #[.slice A0_0 l0_0.length c0_0,.int .i64 a0_1,.int .i64 a0_2,.int .i64 a0_3]] rfl y1_ ?_;(with_reducible refine (sky_isSky.calls k _ _ l0_0 a0_1 a0_2 a0_3 false _ ?side1 ?side2 A6.out).mono ?_);(case side1=>repeat (first|exact (Kd.C_below HR0_0.out HB.out)|(with_reducible refine Kd.C_alloc ?_ _)|(with_reducible refine Kd.C_drewN ?_ _)|(with_reducible refine Kd.C_drew ?_)));(case side2=>exact HC0_0.out);rintro e w20 ⟨rfl,hb⟩;refine ⟨_,rfl,?_⟩;have n0_:=A0_ (blk_below (g:=gb314) (o:=.cells #[.slice A0_0 l0_0.length c0_0,.int .i64 a0_1,.int .i64 a0_2,.int .i64 a0_3] 28 (0,0)) (bd_ BK314.out) hb);have n1_:=A0_ (below_step y27_ hb);clear BK314;clear HB;have BK314:=n0_;have HB:=n1_;clear n0_ n1_;(try clear hb);(try clear hb2);(try clear hk);(try clear hi)))
   go_meet
   case rel=>exact ⟨_,(true),y5_,H',⟨by first|omega|exact Nat.le_refl _⟩,⟨by (with_reducible repeat (first|refine blk_drewN ?_ _|refine blk_drew ?_|refine blk_alloc ?_ _));exact BK314.out⟩,⟨y27_⟩⟩
 case rest=>
  clear HC4;(try clear c2);(try clear p2);(try clear c5);(try clear c7);(try clear c9);(try clear hcz11_0);(try clear hcz11_1);(try clear hcz11_2);(try clear hcz11_3);(try clear hcz13_0);(try clear hcz13_1);(try clear hcz13_2);(try clear hcz13_3);(try clear hcz15_0);(try clear hcz15_1);(try clear hcz15_2);(try clear hcz15_3);(try clear hcz17_0);(try clear hcz17_1);(try clear hcz17_2);(try clear hcz17_3);(try clear hcz19_0);(try clear hcz19_1);(try clear hcz19_2);(try clear hcz19_3);(try clear hfz11_0);(try clear hfz11_1);(try clear hfz11_2);(try clear hfz11_3);(try clear hfz13_0);(try clear hfz13_1);(try clear hfz13_2);(try clear hfz13_3);(try clear hfz15_0);(try clear hfz15_1);(try clear hfz15_2);(try clear hfz15_3);(try clear hfz17_0);(try clear hfz17_1);(try clear hfz17_2);(try clear hfz17_3);(try clear hfz19_0);(try clear hfz19_1);(try clear hfz19_2);(try clear hfz19_3)
  obtain ⟨kq,x21_3,rfl,HA,HJ3,BK314,HB⟩:=hcut
  cases kq with
  |zero=>exact absurd HA.out (by simp [sky_Place.j0])
  |succ kj3=>
   have H:=HA.out
   clear HA
   simp only [sky_Place.j0] at H
   by_cases c21:x21_3=true
   ·subst c21
    have H1:(some (0,2))=some (r1,r2):=by rw [if_pos rfl] at H;exact H
    clear H;have H:=H1;clear H1
    simp only [Option.some.injEq,Prod.mk.injEq] at H
    obtain ⟨rfl,rfl⟩:=H;go_wp2
    go_ret2
    exact ⟨y3_,y27_⟩
   ·replace c21:=Bool.eq_false_iff.mpr c21;subst c21
    have H1:((ss_way.f kj3 l0_0 a0_1 a0_2 a0_3 a2 a1).bind fun t318=>((sky_around.f t318).bind fun t319=>(some (t319,0))))=some (r1,r2):=by rw [if_neg (show ¬ (false=true) by decide)] at H;exact H
    clear H;have H:=H1;clear H1;replace H:=Option.bind_eq_some_iff.mp H;obtain ⟨t318,A220,H⟩:=H
    replace H:((sky_around.f t318).bind fun t319=>(some (t319,0)))=some (r1,r2):=H
    have A22:=A0_ A220;clear A220;replace H:=Option.bind_eq_some_iff.mp H;obtain ⟨t319,A230,H⟩:=H
    replace H:(some (t319,0))=some (r1,r2):=H
    have A23:=A0_ A230;clear A230
    simp only [Option.some.injEq,Prod.mk.injEq] at H
    obtain ⟨rfl,rfl⟩:=H;obtain ⟨hcz24_0,hcz24_1,hcz24_2,hcz24_3,hfz24_0,hfz24_1,hfz24_2,hfz24_3⟩:=bq4_ BK314.out
    go_wp2_with (first|((with_reducible refine gate_callee (f:=64) rfl ?_);refine goesL_ (some 26) rfl rfl Tryz.func64 (by kernel_rfl) rfl #[.agg #[.slice A0_0 l0_0.length c0_0,.int .i64 a0_1,.int .i64 a0_2,.int .i64 a0_3,.int .i64 a2],.int .i64 a1] rfl y1_ ?_;(with_reducible refine (ss_way.calls kj3 _ _ l0_0 a0_1 a0_2 a0_3 a2 a1 t318 _ ?side1 ?side2 A22.out).mono ?_);(case side1=>repeat (first|exact (Kd.C_below HR0_0.out HB.out)|(with_reducible refine Kd.C_alloc ?_ _)|(with_reducible refine Kd.C_drewN ?_ _)|(with_reducible refine Kd.C_drew ?_)));(case side2=>exact HC0_0.out);rintro e w25 ⟨rfl,hb⟩;refine ⟨_,rfl,?_⟩;have n0_:=A0_ (blk_below (g:=gb314) (o:=.cells #[.slice A0_0 l0_0.length c0_0,.int .i64 a0_1,.int .i64 a0_2,.int .i64 a0_3] 28 (0,0)) (bd_ BK314.out) hb);have n1_:=A0_ (below_step y27_ hb);clear BK314;clear HB;have BK314:=n0_;have HB:=n1_;clear n0_ n1_;(try clear hb);(try clear hb2);(try clear hk);(try clear hi))|((with_reducible refine gate_callee (f:=63) rfl ?_);refine goesL_ (some 27) rfl rfl Tryz.func63 (by kernel_rfl) rfl #[.int .i64 t318] rfl y1_ ?_;(with_reducible refine (sky_around.calls t318 t319 _ A23.out).mono ?_);rintro e w' ⟨rfl,⟨nd,rfl⟩⟩;refine ⟨_,rfl,?_⟩))
    go_ret2
    exact ⟨y3_,y27_⟩
def sky_Node.f (k:Nat) (l0_0:List (S83)) (a0_1:Int) (a0_2:Int) (a0_3:Int) (a1:Int):Option (Int × Int):=(sky_isSky.f k l0_0 a0_1 a0_2 a0_3).bind fun t321=>(if t321=true then ((sky_isDay.f a1).bind fun t322=>(if t322=true then ((ss_node.f l0_0 a0_1 a0_2 a0_3 a1).bind fun t323=>(some (t323,0))) else (some (0,2)))) else (some (0,2)))
set_option maxHeartbeats 8000000 in
set_option maxRecDepth 100000 in
theorem sky_Node.calls (k:Nat) (A0_0:Option Addr) (c0_0:Nat) (l0_0:List (S83)) (a0_1:Int) (a0_2:Int) (a0_3:Int) (a1:Int) (r1:Int) (r2:Int) (w:World) (hr0_0:Kd.C k83 w A0_0 l0_0.length l0_0) (hc0_0:l0_0.length≤c0_0) (h:sky_Node.f k l0_0 a0_1 a0_2 a0_3 a1=some (r1,r2)):
  Calls Tryz.prog 22 #[.agg #[.slice A0_0 l0_0.length c0_0,.int .i64 a0_1,.int .i64 a0_2,.int .i64 a0_3],.int .i64 a1] w fun e w'=>e=.returned (.tuple #[.int .i64 r1,.int .i64 r2])∧Below w.heap.size w w':=by
 have hu28:=Tryz.underlying28
 have hu96:=Tryz.underlying96
 have HR0_0:=A0_ hr0_0;have HC0_0:=A0_ hc0_0;clear hr0_0 hc0_0
 have HB:=A0_ (Below.refl w.heap.size w)
 have H:((sky_isSky.f k l0_0 a0_1 a0_2 a0_3).bind fun t321=>(if t321=true then ((sky_isDay.f a1).bind fun t322=>(if t322=true then ((ss_node.f l0_0 a0_1 a0_2 a0_3 a1).bind fun t323=>(some (t323,0))) else (some (0,2)))) else (some (0,2))))=some (r1,r2):=h
 clear h;replace H:=Option.bind_eq_some_iff.mp H;obtain ⟨t321,A30,H⟩:=H
 replace H:(if t321=true then ((sky_isDay.f a1).bind fun t322=>(if t322=true then ((ss_node.f l0_0 a0_1 a0_2 a0_3 a1).bind fun t323=>(some (t323,0))) else (some (0,2)))) else (some (0,2)))=some (r1,r2):=H
 have A3:=A0_ A30;clear A30
 by_cases c4:t321=true
 ·subst c4
  have H1:((sky_isDay.f a1).bind fun t322=>(if t322=true then ((ss_node.f l0_0 a0_1 a0_2 a0_3 a1).bind fun t323=>(some (t323,0))) else (some (0,2))))=some (r1,r2):=by rw [if_pos rfl] at H;exact H
  clear H;have H:=H1;clear H1;replace H:=Option.bind_eq_some_iff.mp H;obtain ⟨t322,A50,H⟩:=H
  replace H:(if t322=true then ((ss_node.f l0_0 a0_1 a0_2 a0_3 a1).bind fun t323=>(some (t323,0))) else (some (0,2)))=some (r1,r2):=H
  have A5:=A0_ A50;clear A50
  by_cases c6:t322=true
  ·subst c6
   have H1:((ss_node.f l0_0 a0_1 a0_2 a0_3 a1).bind fun t323=>(some (t323,0)))=some (r1,r2):=by rw [if_pos rfl] at H;exact H
   clear H;have H:=H1;clear H1;replace H:=Option.bind_eq_some_iff.mp H;obtain ⟨t323,A70,H⟩:=H
   replace H:(some (t323,0))=some (r1,r2):=H
   have A7:=A0_ A70;clear A70
   simp only [Option.some.injEq,Prod.mk.injEq] at H
   obtain ⟨rfl,rfl⟩:=H
   go_enter Tryz.func22,Tryz.ntmps22
   go_wp2_with (first|((with_reducible refine gate_dst (N:=2) rfl ?_);refine box_event ?hg (N:=2) ?hd (cs:=#[.slice A0_0 l0_0.length c0_0,.int .i64 a0_1,.int .i64 a0_2,.int .i64 a0_3]) (t:=28) ?hr ?_;(case hd=>rfl);(case hg=>rfl);(case hr=>first|(go_simp;done)|(go_simp;rfl));intro gb320 hg w8 hbox hb;have n0_:=A0_ (below_step y0_ hb);have n1_:=A0_ (hbox);have n2_:=A0_ ((by rw [hg];exact (below_size y0_):w.heap.size≤gb320));have n3_:=A0_ ((by rw [hg];exact (below_size y0_):w.heap.size≤gb320));clear HB;have HB:=n0_;have BK320:=n1_;have GW320:=n2_;have GE320:=n3_;clear n0_ n1_ n2_ n3_;clear hb hbox hg;obtain ⟨hcz9_0,hcz9_1,hcz9_2,hcz9_3,hfz9_0,hfz9_1,hfz9_2,hfz9_3⟩:=bq4_ BK320.out)|((with_reducible refine gate_callee (f:=52) rfl ?_);refine goesL_ (some 7) rfl rfl Tryz.func52 (by kernel_rfl) rfl #[.agg #[.slice A0_0 l0_0.length c0_0,.int .i64 a0_1,.int .i64 a0_2,.int .i64 a0_3]] rfl y1_ ?_;(with_reducible refine (sky_isSky.calls k _ _ l0_0 a0_1 a0_2 a0_3 true _ ?side1 ?side2 A3.out).mono ?_);(case side1=>repeat (first|exact (Kd.C_below HR0_0.out HB.out)|(with_reducible refine Kd.C_alloc ?_ _)|(with_reducible refine Kd.C_drewN ?_ _)|(with_reducible refine Kd.C_drew ?_)));(case side2=>exact HC0_0.out);rintro e w10 ⟨rfl,hb⟩;refine ⟨_,rfl,?_⟩;have n0_:=A0_ (blk_below (g:=gb320) (o:=.cells #[.slice A0_0 l0_0.length c0_0,.int .i64 a0_1,.int .i64 a0_2,.int .i64 a0_3] 28 (0,0)) (bd_ BK320.out) hb);have n1_:=A0_ (below_step y2p_ hb);clear BK320;clear HB;have BK320:=n0_;have HB:=n1_;clear n0_ n1_;(try clear hb);(try clear hb2);(try clear hk);(try clear hi))|(go_at_call 62;(with_reducible refine (sky_isDay.calls a1 true _ A5.out).mono ?_);rintro e w' ⟨rfl,⟨nd,rfl⟩⟩;obtain ⟨hcz11_0,hcz11_1,hcz11_2,hcz11_3,hfz11_0,hfz11_1,hfz11_2,hfz11_3⟩:=bq4_ BK320.out)|((with_reducible refine gate_callee (f:=65) rfl ?_);refine goesL_ (some 17) rfl rfl Tryz.func65 (by kernel_rfl) rfl #[.agg #[.slice A0_0 l0_0.length c0_0,.int .i64 a0_1,.int .i64 a0_2,.int .i64 a0_3,.int .i64 a1]] rfl y1_ ?_;(with_reducible refine (ss_node.calls _ _ l0_0 a0_1 a0_2 a0_3 a1 t323 _ ?side1 ?side2 A7.out).mono ?_);(case side1=>repeat (first|exact (Kd.C_below HR0_0.out y2p_)|(with_reducible refine Kd.C_alloc ?_ _)|(with_reducible refine Kd.C_drewN ?_ _)|(with_reducible refine Kd.C_drew ?_)));(case side2=>exact HC0_0.out);rintro e w12 ⟨rfl,hb⟩;refine ⟨_,rfl,?_⟩;have n0_:=A0_ (blk_below (g:=gb320) (o:=.cells #[.slice A0_0 l0_0.length c0_0,.int .i64 a0_1,.int .i64 a0_2,.int .i64 a0_3] 28 (0,0)) (bd_ BK320.out) hb);have n1_:=A0_ (below_step y2p_ hb);clear BK320;clear HB;have BK320:=n0_;have HB:=n1_;clear n0_ n1_;(try clear hb);(try clear hb2);(try clear hk);(try clear hi)))
   go_ret2
   exact ⟨y3_,y2p_⟩
  ·replace c6:=Bool.eq_false_iff.mpr c6;subst c6
   have H1:(some (0,2))=some (r1,r2):=by rw [if_neg (show ¬ (false=true) by decide)] at H;exact H
   clear H;have H:=H1;clear H1
   simp only [Option.some.injEq,Prod.mk.injEq] at H
   obtain ⟨rfl,rfl⟩:=H
   go_enter Tryz.func22,Tryz.ntmps22
   go_wp2_with (first|((with_reducible refine gate_dst (N:=2) rfl ?_);refine box_event ?hg (N:=2) ?hd (cs:=#[.slice A0_0 l0_0.length c0_0,.int .i64 a0_1,.int .i64 a0_2,.int .i64 a0_3]) (t:=28) ?hr ?_;(case hd=>rfl);(case hg=>rfl);(case hr=>first|(go_simp;done)|(go_simp;rfl));intro gb320 hg w13 hbox hb;have n0_:=A0_ (below_step y0_ hb);have n1_:=A0_ (hbox);have n2_:=A0_ ((by rw [hg];exact (below_size y0_):w.heap.size≤gb320));have n3_:=A0_ ((by rw [hg];exact (below_size y0_):w.heap.size≤gb320));clear HB;have HB:=n0_;have BK320:=n1_;have GW320:=n2_;have GE320:=n3_;clear n0_ n1_ n2_ n3_;clear hb hbox hg;obtain ⟨hcz14_0,hcz14_1,hcz14_2,hcz14_3,hfz14_0,hfz14_1,hfz14_2,hfz14_3⟩:=bq4_ BK320.out)|((with_reducible refine gate_callee (f:=52) rfl ?_);refine goesL_ (some 7) rfl rfl Tryz.func52 (by kernel_rfl) rfl #[.agg #[.slice A0_0 l0_0.length c0_0,.int .i64 a0_1,.int .i64 a0_2,.int .i64 a0_3]] rfl y1_ ?_;(with_reducible refine (sky_isSky.calls k _ _ l0_0 a0_1 a0_2 a0_3 true _ ?side1 ?side2 A3.out).mono ?_);(case side1=>repeat (first|exact (Kd.C_below HR0_0.out HB.out)|(with_reducible refine Kd.C_alloc ?_ _)|(with_reducible refine Kd.C_drewN ?_ _)|(with_reducible refine Kd.C_drew ?_)));(case side2=>exact HC0_0.out);rintro e w15 ⟨rfl,hb⟩;refine ⟨_,rfl,?_⟩;have n0_:=A0_ (blk_below (g:=gb320) (o:=.cells #[.slice A0_0 l0_0.length c0_0,.int .i64 a0_1,.int .i64 a0_2,.int .i64 a0_3] 28 (0,0)) (bd_ BK320.out) hb);have n1_:=A0_ (below_step y2p_ hb);clear BK320;clear HB;have BK320:=n0_;have HB:=n1_;clear n0_ n1_;(try clear hb);(try clear hb2);(try clear hk);(try clear hi))|(go_at_call 62;(with_reducible refine (sky_isDay.calls a1 false _ A5.out).mono ?_);rintro e w' ⟨rfl,⟨nd,rfl⟩⟩))
   go_ret2
   exact ⟨y3_,y2p_⟩
 ·replace c4:=Bool.eq_false_iff.mpr c4;subst c4
  have H1:(some (0,2))=some (r1,r2):=by rw [if_neg (show ¬ (false=true) by decide)] at H;exact H
  clear H;have H:=H1;clear H1
  simp only [Option.some.injEq,Prod.mk.injEq] at H
  obtain ⟨rfl,rfl⟩:=H
  go_enter Tryz.func22,Tryz.ntmps22
  go_wp2_with (first|((with_reducible refine gate_dst (N:=2) rfl ?_);refine box_event ?hg (N:=2) ?hd (cs:=#[.slice A0_0 l0_0.length c0_0,.int .i64 a0_1,.int .i64 a0_2,.int .i64 a0_3]) (t:=28) ?hr ?_;(case hd=>rfl);(case hg=>rfl);(case hr=>first|(go_simp;done)|(go_simp;rfl));intro gb320 hg w16 hbox hb;have n0_:=A0_ (below_step y0_ hb);have n1_:=A0_ (hbox);have n2_:=A0_ ((by rw [hg];exact (below_size y0_):w.heap.size≤gb320));have n3_:=A0_ ((by rw [hg];exact (below_size y0_):w.heap.size≤gb320));clear HB;have HB:=n0_;have BK320:=n1_;have GW320:=n2_;have GE320:=n3_;clear n0_ n1_ n2_ n3_;clear hb hbox hg;obtain ⟨hcz17_0,hcz17_1,hcz17_2,hcz17_3,hfz17_0,hfz17_1,hfz17_2,hfz17_3⟩:=bq4_ BK320.out)|((with_reducible refine gate_callee (f:=52) rfl ?_);refine goesL_ (some 7) rfl rfl Tryz.func52 (by kernel_rfl) rfl #[.agg #[.slice A0_0 l0_0.length c0_0,.int .i64 a0_1,.int .i64 a0_2,.int .i64 a0_3]] rfl y1_ ?_;(with_reducible refine (sky_isSky.calls k _ _ l0_0 a0_1 a0_2 a0_3 false _ ?side1 ?side2 A3.out).mono ?_);(case side1=>repeat (first|exact (Kd.C_below HR0_0.out HB.out)|(with_reducible refine Kd.C_alloc ?_ _)|(with_reducible refine Kd.C_drewN ?_ _)|(with_reducible refine Kd.C_drew ?_)));(case side2=>exact HC0_0.out);rintro e w18 ⟨rfl,hb⟩;refine ⟨_,rfl,?_⟩;have n0_:=A0_ (blk_below (g:=gb320) (o:=.cells #[.slice A0_0 l0_0.length c0_0,.int .i64 a0_1,.int .i64 a0_2,.int .i64 a0_3] 28 (0,0)) (bd_ BK320.out) hb);have n1_:=A0_ (below_step y2p_ hb);clear BK320;clear HB;have BK320:=n0_;have HB:=n1_;clear n0_ n1_;(try clear hb);(try clear hb2);(try clear hk);(try clear hi)))
  go_ret2
  exact ⟨y3_,y2p_⟩
def sky_areTwo.f (l0_0:List (S83)) (a0_1:Int) (a0_2:Int) (a0_3:Int) (a1:Int) (a2:Int):Option (Bool):=(sky_isBody.f l0_0 a0_1 a0_2 a0_3 a1).bind fun t448=>(if t448=true then ((sky_isBody.f l0_0 a0_1 a0_2 a0_3 a2).bind fun t449=>(if t449=true then (some (a1 != a2)) else (some false))) else (some false))
set_option maxHeartbeats 8000000 in
set_option maxRecDepth 100000 in
theorem sky_areTwo.calls (A0_0:Option Addr) (c0_0:Nat) (l0_0:List (S83)) (a0_1:Int) (a0_2:Int) (a0_3:Int) (a1:Int) (a2:Int) (r:Bool) (w:World) (hr0_0:Kd.C k83 w A0_0 l0_0.length l0_0) (hc0_0:l0_0.length≤c0_0) (h:sky_areTwo.f l0_0 a0_1 a0_2 a0_3 a1 a2=some r):
  Calls Tryz.prog 81 #[.agg #[.slice A0_0 l0_0.length c0_0,.int .i64 a0_1,.int .i64 a0_2,.int .i64 a0_3],.int .i64 a1,.int .i64 a2] w fun e w'=>e=.returned (.bool r)∧Below w.heap.size w w':=by
 have hu28:=Tryz.underlying28
 have HR0_0:=A0_ hr0_0;have HC0_0:=A0_ hc0_0;clear hr0_0 hc0_0
 have HB:=A0_ (Below.refl w.heap.size w)
 have H:((sky_isBody.f l0_0 a0_1 a0_2 a0_3 a1).bind fun t448=>(if t448=true then ((sky_isBody.f l0_0 a0_1 a0_2 a0_3 a2).bind fun t449=>(if t449=true then (some (a1 != a2)) else (some false))) else (some false)))=some r:=h
 clear h;replace H:=Option.bind_eq_some_iff.mp H;obtain ⟨t448,A40,H⟩:=H
 replace H:(if t448=true then ((sky_isBody.f l0_0 a0_1 a0_2 a0_3 a2).bind fun t449=>(if t449=true then (some (a1 != a2)) else (some false))) else (some false))=some r:=H
 have A4:=A0_ A40;clear A40
 by_cases c5:t448=true
 ·subst c5
  have H1:((sky_isBody.f l0_0 a0_1 a0_2 a0_3 a2).bind fun t449=>(if t449=true then (some (a1 != a2)) else (some false)))=some r:=by rw [if_pos rfl] at H;exact H
  clear H;have H:=H1;clear H1;replace H:=Option.bind_eq_some_iff.mp H;obtain ⟨t449,A60,H⟩:=H
  replace H:(if t449=true then (some (a1 != a2)) else (some false))=some r:=H
  have A6:=A0_ A60;clear A60
  by_cases c7:t449=true
  ·subst c7
   have H1:(some (a1 != a2))=some r:=by rw [if_pos rfl] at H;exact H
   clear H;have H:=H1;clear H1;obtain rfl:=Option.some.inj H
   go_enter Tryz.func81,Tryz.ntmps81
   go_wp2_with (first|((with_reducible refine gate_dst (N:=3) rfl ?_);refine box_event ?hg (N:=3) ?hd (cs:=#[.slice A0_0 l0_0.length c0_0,.int .i64 a0_1,.int .i64 a0_2,.int .i64 a0_3]) (t:=28) ?hr ?_;(case hd=>rfl);(case hg=>rfl);(case hr=>first|(go_simp;done)|(go_simp;rfl));intro gb447 hg w8 hbox hb;have n0_:=A0_ (below_step y0_ hb);have n1_:=A0_ (hbox);have n2_:=A0_ ((by rw [hg];exact (below_size y0_):w.heap.size≤gb447));have n3_:=A0_ ((by rw [hg];exact (below_size y0_):w.heap.size≤gb447));clear HB;have HB:=n0_;have BK447:=n1_;have GW447:=n2_;have GE447:=n3_;clear n0_ n1_ n2_ n3_;clear hb hbox hg;obtain ⟨hcz9_0,hcz9_1,hcz9_2,hcz9_3,hfz9_0,hfz9_1,hfz9_2,hfz9_3⟩:=bq4_ BK447.out)|((with_reducible refine gate_callee (f:=61) rfl ?_);refine goesL_ (some 9) rfl rfl Tryz.func61 (by kernel_rfl) rfl #[.agg #[.slice A0_0 l0_0.length c0_0,.int .i64 a0_1,.int .i64 a0_2,.int .i64 a0_3],.int .i64 a1] rfl y1_ ?_;(with_reducible refine (sky_isBody.calls _ _ l0_0 a0_1 a0_2 a0_3 a1 true _ ?side1 ?side2 A4.out).mono ?_);(case side1=>repeat (first|exact (Kd.C_below HR0_0.out HB.out)|(with_reducible refine Kd.C_alloc ?_ _)|(with_reducible refine Kd.C_drewN ?_ _)|(with_reducible refine Kd.C_drew ?_)));(case side2=>exact HC0_0.out);rintro e w10 ⟨rfl,hb⟩;refine ⟨_,rfl,?_⟩;have n0_:=A0_ (blk_below (g:=gb447) (o:=.cells #[.slice A0_0 l0_0.length c0_0,.int .i64 a0_1,.int .i64 a0_2,.int .i64 a0_3] 28 (0,0)) (bd_ BK447.out) hb);have n1_:=A0_ (below_step y2o_ hb);clear BK447;clear HB;have BK447:=n0_;have HB:=n1_;clear n0_ n1_;(try clear hb);(try clear hb2);(try clear hk);(try clear hi);obtain ⟨hcz11_0,hcz11_1,hcz11_2,hcz11_3,hfz11_0,hfz11_1,hfz11_2,hfz11_3⟩:=bq4_ BK447.out)|(go_at_call 61;(with_reducible refine (sky_isBody.calls _ _ l0_0 a0_1 a0_2 a0_3 a2 true _ ?side1 ?side2 A6.out).mono ?_);(case side1=>repeat (first|exact (Kd.C_below HR0_0.out HB.out)|(with_reducible refine Kd.C_alloc ?_ _)|(with_reducible refine Kd.C_drewN ?_ _)|(with_reducible refine Kd.C_drew ?_)));(case side2=>exact HC0_0.out);rintro e w12 ⟨rfl,hb⟩;have n0_:=A0_ (blk_below (g:=gb447) (o:=.cells #[.slice A0_0 l0_0.length c0_0,.int .i64 a0_1,.int .i64 a0_2,.int .i64 a0_3] 28 (0,0)) (bd_ BK447.out) hb);have n1_:=A0_ (below_step y2o_ hb);clear BK447;clear HB;have BK447:=n0_;have HB:=n1_;clear n0_ n1_;(try clear hb);(try clear hb2);(try clear hk);(try clear hi)))
   go_ret
   exact ⟨y3_,y2o_⟩
  ·replace c7:=Bool.eq_false_iff.mpr c7;subst c7
   have H1:(some false)=some r:=by rw [if_neg (show ¬ (false=true) by decide)] at H;exact H
   clear H;have H:=H1;clear H1;obtain rfl:=Option.some.inj H
   go_enter Tryz.func81,Tryz.ntmps81
   go_wp2_with (first|((with_reducible refine gate_dst (N:=3) rfl ?_);refine box_event ?hg (N:=3) ?hd (cs:=#[.slice A0_0 l0_0.length c0_0,.int .i64 a0_1,.int .i64 a0_2,.int .i64 a0_3]) (t:=28) ?hr ?_;(case hd=>rfl);(case hg=>rfl);(case hr=>first|(go_simp;done)|(go_simp;rfl));intro gb447 hg w13 hbox hb;have n0_:=A0_ (below_step y0_ hb);have n1_:=A0_ (hbox);have n2_:=A0_ ((by rw [hg];exact (below_size y0_):w.heap.size≤gb447));have n3_:=A0_ ((by rw [hg];exact (below_size y0_):w.heap.size≤gb447));clear HB;have HB:=n0_;have BK447:=n1_;have GW447:=n2_;have GE447:=n3_;clear n0_ n1_ n2_ n3_;clear hb hbox hg;obtain ⟨hcz14_0,hcz14_1,hcz14_2,hcz14_3,hfz14_0,hfz14_1,hfz14_2,hfz14_3⟩:=bq4_ BK447.out)|((with_reducible refine gate_callee (f:=61) rfl ?_);refine goesL_ (some 9) rfl rfl Tryz.func61 (by kernel_rfl) rfl #[.agg #[.slice A0_0 l0_0.length c0_0,.int .i64 a0_1,.int .i64 a0_2,.int .i64 a0_3],.int .i64 a1] rfl y1_ ?_;(with_reducible refine (sky_isBody.calls _ _ l0_0 a0_1 a0_2 a0_3 a1 true _ ?side1 ?side2 A4.out).mono ?_);(case side1=>repeat (first|exact (Kd.C_below HR0_0.out HB.out)|(with_reducible refine Kd.C_alloc ?_ _)|(with_reducible refine Kd.C_drewN ?_ _)|(with_reducible refine Kd.C_drew ?_)));(case side2=>exact HC0_0.out);rintro e w15 ⟨rfl,hb⟩;refine ⟨_,rfl,?_⟩;have n0_:=A0_ (blk_below (g:=gb447) (o:=.cells #[.slice A0_0 l0_0.length c0_0,.int .i64 a0_1,.int .i64 a0_2,.int .i64 a0_3] 28 (0,0)) (bd_ BK447.out) hb);have n1_:=A0_ (below_step y2o_ hb);clear BK447;clear HB;have BK447:=n0_;have HB:=n1_;clear n0_ n1_;(try clear hb);(try clear hb2);(try clear hk);(try clear hi);obtain ⟨hcz16_0,hcz16_1,hcz16_2,hcz16_3,hfz16_0,hfz16_1,hfz16_2,hfz16_3⟩:=bq4_ BK447.out)|(go_at_call 61;(with_reducible refine (sky_isBody.calls _ _ l0_0 a0_1 a0_2 a0_3 a2 false _ ?side1 ?side2 A6.out).mono ?_);(case side1=>repeat (first|exact (Kd.C_below HR0_0.out HB.out)|(with_reducible refine Kd.C_alloc ?_ _)|(with_reducible refine Kd.C_drewN ?_ _)|(with_reducible refine Kd.C_drew ?_)));(case side2=>exact HC0_0.out);rintro e w17 ⟨rfl,hb⟩;have n0_:=A0_ (blk_below (g:=gb447) (o:=.cells #[.slice A0_0 l0_0.length c0_0,.int .i64 a0_1,.int .i64 a0_2,.int .i64 a0_3] 28 (0,0)) (bd_ BK447.out) hb);have n1_:=A0_ (below_step y2o_ hb);clear BK447;clear HB;have BK447:=n0_;have HB:=n1_;clear n0_ n1_;(try clear hb);(try clear hb2);(try clear hk);(try clear hi)))
   go_ret
   exact ⟨y3_,y2o_⟩
 ·replace c5:=Bool.eq_false_iff.mpr c5;subst c5
  have H1:(some false)=some r:=by rw [if_neg (show ¬ (false=true) by decide)] at H;exact H
  clear H;have H:=H1;clear H1;obtain rfl:=Option.some.inj H
  go_enter Tryz.func81,Tryz.ntmps81
  go_wp2_with (first|((with_reducible refine gate_dst (N:=3) rfl ?_);refine box_event ?hg (N:=3) ?hd (cs:=#[.slice A0_0 l0_0.length c0_0,.int .i64 a0_1,.int .i64 a0_2,.int .i64 a0_3]) (t:=28) ?hr ?_;(case hd=>rfl);(case hg=>rfl);(case hr=>first|(go_simp;done)|(go_simp;rfl));intro gb447 hg w18 hbox hb;have n0_:=A0_ (below_step y0_ hb);have n1_:=A0_ (hbox);have n2_:=A0_ ((by rw [hg];exact (below_size y0_):w.heap.size≤gb447));have n3_:=A0_ ((by rw [hg];exact (below_size y0_):w.heap.size≤gb447));clear HB;have HB:=n0_;have BK447:=n1_;have GW447:=n2_;have GE447:=n3_;clear n0_ n1_ n2_ n3_;clear hb hbox hg;obtain ⟨hcz19_0,hcz19_1,hcz19_2,hcz19_3,hfz19_0,hfz19_1,hfz19_2,hfz19_3⟩:=bq4_ BK447.out)|((with_reducible refine gate_callee (f:=61) rfl ?_);refine goesL_ (some 9) rfl rfl Tryz.func61 (by kernel_rfl) rfl #[.agg #[.slice A0_0 l0_0.length c0_0,.int .i64 a0_1,.int .i64 a0_2,.int .i64 a0_3],.int .i64 a1] rfl y1_ ?_;(with_reducible refine (sky_isBody.calls _ _ l0_0 a0_1 a0_2 a0_3 a1 false _ ?side1 ?side2 A4.out).mono ?_);(case side1=>repeat (first|exact (Kd.C_below HR0_0.out HB.out)|(with_reducible refine Kd.C_alloc ?_ _)|(with_reducible refine Kd.C_drewN ?_ _)|(with_reducible refine Kd.C_drew ?_)));(case side2=>exact HC0_0.out);rintro e w20 ⟨rfl,hb⟩;refine ⟨_,rfl,?_⟩;have n0_:=A0_ (blk_below (g:=gb447) (o:=.cells #[.slice A0_0 l0_0.length c0_0,.int .i64 a0_1,.int .i64 a0_2,.int .i64 a0_3] 28 (0,0)) (bd_ BK447.out) hb);have n1_:=A0_ (below_step y2o_ hb);clear BK447;clear HB;have BK447:=n0_;have HB:=n1_;clear n0_ n1_;(try clear hb);(try clear hb2);(try clear hk);(try clear hi)))
  go_ret
  exact ⟨y3_,y2o_⟩
end Go.Proofs.YtaidphhkhddemaaGreatDoor.PSky
end
section
namespace Go.Proofs.YtaidphhkhddemaaGreatDoor.PSky
open Go.RowKit Go.Proofs.YtaidphhkhddemaaGreatDoorW.PrintWords Go.Proofs.YtaidphhkhddemaaGreatDoorW.PrintLast Go.Proofs.YtaidphhkhddemaaGreatDoorW.PrintMore
attribute [local go_sem] max2_int min2_int max_two min_two max_three min_three max_four min_four
set_option linter.unusedVariables false
set_option linter.unusedSimpArgs false
def ss_ahead.f (k:Nat) (l0_0:List (S83)) (a0_1:Int) (a0_2:Int) (a0_3:Int) (a0_4:Int) (a1:Int) (a2:Int):Option (Int):=(ss_way.f k l0_0 a0_1 a0_2 a0_3 a0_4 a1).bind fun t451=>((ss_way.f k l0_0 a0_1 a0_2 a0_3 a0_4 a2).bind fun t452=>(some (wrap64 (t451 - t452))))
def ss_ahead.T1:Bool × List (List Nat × List Nat):=(true,[([],[]),([],[]),([0,1],[0,1]),([],[]),([],[]),([3,4,2],[3,4]),([2,5],[2,5]),([6,5,0,1,2,3,4,5,6],[6])])
def ss_ahead.B1:List Nat:=[0,0,3,0,0,31,63,127]
theorem ss_ahead.tab1:rtab .any (opsOf Tryz.f82 1)=ss_ahead.T1:=by kernel_rfl
theorem ss_ahead.bits1:waitsOk ss_ahead.T1.2 ss_ahead.B1=true:=by kernel_rfl
set_option maxHeartbeats 8000000 in
set_option maxRecDepth 100000 in
theorem ss_ahead.calls (k:Nat) (A0_0:Option Addr) (c0_0:Nat) (l0_0:List (S83)) (a0_1:Int) (a0_2:Int) (a0_3:Int) (a0_4:Int) (a1:Int) (a2:Int) (r:Int) (w:World) (hr0_0:Kd.C k83 w A0_0 l0_0.length l0_0) (hc0_0:l0_0.length≤c0_0) (h:ss_ahead.f k l0_0 a0_1 a0_2 a0_3 a0_4 a1 a2=some r):
  Calls Tryz.prog 82 #[.agg #[.slice A0_0 l0_0.length c0_0,.int .i64 a0_1,.int .i64 a0_2,.int .i64 a0_3,.int .i64 a0_4],.int .i64 a1,.int .i64 a2] w fun e w'=>e=.returned (.int .i64 r)∧Below w.heap.size w w':=by
 have hu96:=Tryz.underlying96
 have HR0_0:=A0_ hr0_0;have HC0_0:=A0_ hc0_0;clear hr0_0 hc0_0
 have HB:=A0_ (Below.refl w.heap.size w)
 have H:((ss_way.f k l0_0 a0_1 a0_2 a0_3 a0_4 a1).bind fun t451=>((ss_way.f k l0_0 a0_1 a0_2 a0_3 a0_4 a2).bind fun t452=>(some (wrap64 (t451 - t452)))))=some r:=h
 clear h;replace H:=Option.bind_eq_some_iff.mp H;obtain ⟨t451,A40,H⟩:=H
 replace H:((ss_way.f k l0_0 a0_1 a0_2 a0_3 a0_4 a2).bind fun t452=>(some (wrap64 (t451 - t452))))=some r:=H
 have A4:=A0_ A40;clear A40;replace H:=Option.bind_eq_some_iff.mp H;obtain ⟨t452,A50,H⟩:=H
 replace H:(some (wrap64 (t451 - t452)))=some r:=H
 have A5:=A0_ A50;clear A50;obtain rfl:=Option.some.inj H
 go_enter Tryz.func82,Tryz.ntmps82
 try go_wp2_with (first|((with_reducible refine gate_dst (N:=3) rfl ?_);refine box_event ?hg (N:=3) ?hd (cs:=#[.slice A0_0 l0_0.length c0_0,.int .i64 a0_1,.int .i64 a0_2,.int .i64 a0_3,.int .i64 a0_4]) (t:=96) ?hr ?_;(case hd=>rfl);(case hg=>rfl);(case hr=>first|(go_simp;done)|(go_simp;rfl));intro gb450 hg w6 hbox hb;have n0_:=A0_ (below_step y0_ hb);have n1_:=A0_ (hbox);have n2_:=A0_ ((by rw [hg];exact (below_size y0_):w.heap.size≤gb450));have n3_:=A0_ ((by rw [hg];exact (below_size y0_):w.heap.size≤gb450));clear HB;have HB:=n0_;have BK450:=n1_;have GW450:=n2_;have GE450:=n3_;clear n0_ n1_ n2_ n3_;clear hb hbox hg))
 have n0_:=A0_ (blk_drew BK450.out);have n1_:=A0_ (below_drew1 HB.out);clear BK450;clear HB;have BK450:=n0_;have HB:=n1_;clear n0_ n1_
 refine start_ (n:=8) (S:=fun w'=>w'.cell? ⟨gb450,0,none⟩=some (.slice A0_0 l0_0.length c0_0)∧w'.cell? ⟨gb450,1,none⟩=some (.int .i64 a0_1)∧w'.cell? ⟨gb450,2,none⟩=some (.int .i64 a0_2)∧w'.cell? ⟨gb450,3,none⟩=some (.int .i64 a0_3)∧w'.cell? ⟨gb450,4,none⟩=some (.int .i64 a0_4)) (ds:=[]) #[false,false,false,false,false,false,false,false] (by kernel_rfl) rfl rfl ⟨(blk_cell BK450.out 0).trans rfl,(blk_cell BK450.out 1).trans rfl,(blk_cell BK450.out 2).trans rfl,(blk_cell BK450.out 3).trans rfl,(blk_cell BK450.out 4).trans rfl⟩ (fun hHeld=>?_);refine with_tabW ss_ahead.tab1 ss_ahead.bits1 (fun HT_ HW_=>?_)
 generalize w6.drew=w7 at BK450 HB hHeld ⊢
 refine pu_ (i:=1) (N:=some 8) ?_;refine pu_ (i:=4) (N:=some 11) ?_;refine ta_ (i:=0) (N:=some 7) ?_;refine ta_ (i:=3) (N:=some 10) ?_
 refine one_ (i:=2) (N:=some 9) #[true,true,true,true,true,false,false,false] rfl rfl (one_of HT_.out (by kernel_rfl)) (by decide) (fun K hK=>?_)
 refine goes_ Tryz.func64 (by kernel_rfl) rfl #[.agg #[.slice A0_0 l0_0.length c0_0,.int .i64 a0_1,.int .i64 a0_2,.int .i64 a0_3,.int .i64 a0_4],.int .i64 a1] (by rfl) rfl rfl y1_ ?_
 with_reducible refine (ss_way.calls k _ _ l0_0 a0_1 a0_2 a0_3 a0_4 a1 t451 _ ?side1 ?side2 A4.out).mono ?_
 (case side1=>repeat (first|exact (Kd.C_below HR0_0.out HB.out)|(with_reducible refine Kd.C_alloc ?_ _)|(with_reducible refine Kd.C_drewN ?_ _)|(with_reducible refine Kd.C_drew ?_)))
 (case side2=>exact HC0_0.out)
 rintro e w8 ⟨rfl,hb⟩
 refine ⟨_,rfl,?_⟩
 have n0_:=A0_ (blk_below (g:=gb450) (o:=.cells #[.slice A0_0 l0_0.length c0_0,.int .i64 a0_1,.int .i64 a0_2,.int .i64 a0_3,.int .i64 a0_4] 96 (0,0)) (bd_ BK450.out) hb);have n1_:=A0_ (below_step y4d_ hb);clear BK450;clear HB;have BK450:=n0_;have HB:=n1_;clear n0_ n1_;(try clear hb);(try clear hb2);(try clear hk);(try clear hi)
 refine hK.out _ _ ⟨(blk_cell BK450.out 0).trans rfl,(blk_cell BK450.out 1).trans rfl,(blk_cell BK450.out 2).trans rfl,(blk_cell BK450.out 3).trans rfl,(blk_cell BK450.out 4).trans rfl⟩ (fun hHeld=>?_)
 clear hK K
 refine norm_ (a':=?_) ?_ ?_
 rotate_left
 ·show Act.put _ (some 9) _=_
  simp only [Act.put,List.setIfInBounds_toArray,List.set_cons_zero,List.set_cons_succ,i64_w,i32_w]
  rfl
 refine one_ (i:=5) (N:=some 12) #[true,true,true,true,true,true,false,false] rfl rfl (one_of HT_.out (by kernel_rfl)) (by decide) (fun K hK=>?_)
 refine goes_ Tryz.func64 (by kernel_rfl) rfl #[.agg #[.slice A0_0 l0_0.length c0_0,.int .i64 a0_1,.int .i64 a0_2,.int .i64 a0_3,.int .i64 a0_4],.int .i64 a2] (by rfl) rfl rfl y1_ ?_
 with_reducible refine (ss_way.calls k _ _ l0_0 a0_1 a0_2 a0_3 a0_4 a2 t452 _ ?side1 ?side2 A5.out).mono ?_
 (case side1=>repeat (first|exact (Kd.C_below HR0_0.out HB.out)|(with_reducible refine Kd.C_alloc ?_ _)|(with_reducible refine Kd.C_drewN ?_ _)|(with_reducible refine Kd.C_drew ?_)))
 (case side2=>exact HC0_0.out)
 rintro e w9 ⟨rfl,hb⟩
 refine ⟨_,rfl,?_⟩
 have n0_:=A0_ (blk_below (g:=gb450) (o:=.cells #[.slice A0_0 l0_0.length c0_0,.int .i64 a0_1,.int .i64 a0_2,.int .i64 a0_3,.int .i64 a0_4] 96 (0,0)) (bd_ BK450.out) hb);have n1_:=A0_ (below_step y4d_ hb);clear BK450;clear HB;have BK450:=n0_;have HB:=n1_;clear n0_ n1_;(try clear hb);(try clear hb2);(try clear hk);(try clear hi)
 refine hK.out _ _ ⟨(blk_cell BK450.out 0).trans rfl,(blk_cell BK450.out 1).trans rfl,(blk_cell BK450.out 2).trans rfl,(blk_cell BK450.out 3).trans rfl,(blk_cell BK450.out 4).trans rfl⟩ (fun hHeld=>?_)
 clear hK K
 refine norm_ (a':=?_) ?_ ?_
 rotate_left
 ·show Act.put _ (some 12) _=_
  simp only [Act.put,List.setIfInBounds_toArray,List.set_cons_zero,List.set_cons_succ,i64_w,i32_w]
  rfl
 refine pu_ (i:=6) (N:=some 13) ?_;refine pu_ (i:=7) (N:=some 6) ?_
 refine done_ (done_of HT_.out (by kernel_rfl)) ?_
 try go_wp2
 go_ret
 exact ⟨y3_,y4d_⟩
def sky_Between.j0:Nat→Int→Int→Int→Bool→List (S83)→Int→Int→Int→Option (Int × Int)
 |0,_,_,_,_,_,_,_,_=>none
 |k+1,x1,x2,x3,x24,x454000,x454001,x454002,x454003=>if x24=true then (some (0,2)) else ((ss_ahead.f k x454000 x454001 x454002 x454003 x3 x1 x2).bind fun t457=>((sky_around.f t457).bind fun t458=>(some (t458,0))))
def sky_Between.f (k:Nat) (l0_0:List (S83)) (a0_1:Int) (a0_2:Int) (a0_3:Int) (a1:Int) (a2:Int) (a3:Int):Option (Int × Int):=(sky_isSky.f k l0_0 a0_1 a0_2 a0_3).bind fun t454=>(if t454=true then ((sky_areTwo.f l0_0 a0_1 a0_2 a0_3 a1 a2).bind fun t455=>(if t455=true then ((sky_isDay.f a3).bind fun t456=>(sky_Between.j0 k a1 a2 a3 (!t456) l0_0 a0_1 a0_2 a0_3)) else (sky_Between.j0 k a1 a2 a3 true l0_0 a0_1 a0_2 a0_3))) else (sky_Between.j0 k a1 a2 a3 true l0_0 a0_1 a0_2 a0_3))
set_option maxHeartbeats 8000000 in
set_option maxRecDepth 100000 in
theorem sky_Between.calls (k:Nat) (A0_0:Option Addr) (c0_0:Nat) (l0_0:List (S83)) (a0_1:Int) (a0_2:Int) (a0_3:Int) (a1:Int) (a2:Int) (a3:Int) (r1:Int) (r2:Int) (w:World) (hr0_0:Kd.C k83 w A0_0 l0_0.length l0_0) (hc0_0:l0_0.length≤c0_0) (h:sky_Between.f k l0_0 a0_1 a0_2 a0_3 a1 a2 a3=some (r1,r2)):
  Calls Tryz.prog 39 #[.agg #[.slice A0_0 l0_0.length c0_0,.int .i64 a0_1,.int .i64 a0_2,.int .i64 a0_3],.int .i64 a1,.int .i64 a2,.int .i64 a3] w fun e w'=>e=.returned (.tuple #[.int .i64 r1,.int .i64 r2])∧Below w.heap.size w w':=by
 have hu28:=Tryz.underlying28
 have hu96:=Tryz.underlying96
 have HR0_0:=A0_ hr0_0;have HC0_0:=A0_ hc0_0;clear hr0_0 hc0_0
 have HB:=A0_ (Below.refl w.heap.size w)
 have H:((sky_isSky.f k l0_0 a0_1 a0_2 a0_3).bind fun t454=>(if t454=true then ((sky_areTwo.f l0_0 a0_1 a0_2 a0_3 a1 a2).bind fun t455=>(if t455=true then ((sky_isDay.f a3).bind fun t456=>(sky_Between.j0 k a1 a2 a3 (!t456) l0_0 a0_1 a0_2 a0_3)) else (sky_Between.j0 k a1 a2 a3 true l0_0 a0_1 a0_2 a0_3))) else (sky_Between.j0 k a1 a2 a3 true l0_0 a0_1 a0_2 a0_3)))=some (r1,r2):=h
 clear h;have HC5:=A0_ H;clear H
 go_enter Tryz.func39,Tryz.ntmps39
 go_upto_region 1 with (first|((with_reducible refine gate_dst (N:=4) rfl ?_);refine box_event ?hg (N:=4) ?hd (cs:=#[.slice A0_0 l0_0.length c0_0,.int .i64 a0_1,.int .i64 a0_2,.int .i64 a0_3]) (t:=28) ?hr ?_;(case hd=>rfl);(case hg=>rfl);(case hr=>first|(go_simp;done)|(go_simp;rfl));intro gb453 hg w6 hbox hb;have n0_:=A0_ (below_step y0_ hb);have n1_:=A0_ (hbox);have n2_:=A0_ ((by rw [hg];exact (below_size y0_):w.heap.size≤gb453));have n3_:=A0_ ((by rw [hg];exact (below_size y0_):w.heap.size≤gb453));clear HB;have HB:=n0_;have BK453:=n1_;have GW453:=n2_;have GE453:=n3_;clear n0_ n1_ n2_ n3_;clear hb hbox hg))
 (try simp only [Act.put,List.setIfInBounds_toArray,List.set_cons_zero,List.set_cons_succ])
 go_cut [24] (fun v24 wc=>∃ (kq:Nat) (x24_4:Bool),v24=.bool x24_4∧Aside0 (sky_Between.j0 kq a1 a2 a3 x24_4 l0_0 a0_1 a0_2 a0_3=some (r1,r2))∧Aside0 (kq≤k)∧Aside0 (wc.heap[gb453]?=some (.cells #[(.slice A0_0 l0_0.length c0_0),.int .i64 a0_1,.int .i64 a0_2,.int .i64 a0_3] 28 (0,0)))∧Aside0 (Below w.heap.size w wc))
 case first=>
  have H:=HC5.out
  clear HC5;replace H:=Option.bind_eq_some_iff.mp H;obtain ⟨t454,A70,H⟩:=H
  replace H:(if t454=true then ((sky_areTwo.f l0_0 a0_1 a0_2 a0_3 a1 a2).bind fun t455=>(if t455=true then ((sky_isDay.f a3).bind fun t456=>(sky_Between.j0 k a1 a2 a3 (!t456) l0_0 a0_1 a0_2 a0_3)) else (sky_Between.j0 k a1 a2 a3 true l0_0 a0_1 a0_2 a0_3))) else (sky_Between.j0 k a1 a2 a3 true l0_0 a0_1 a0_2 a0_3))=some (r1,r2):=H
  have A7:=A0_ A70;clear A70
  by_cases c8:t454=true
  ·subst c8
   have H1:((sky_areTwo.f l0_0 a0_1 a0_2 a0_3 a1 a2).bind fun t455=>(if t455=true then ((sky_isDay.f a3).bind fun t456=>(sky_Between.j0 k a1 a2 a3 (!t456) l0_0 a0_1 a0_2 a0_3)) else (sky_Between.j0 k a1 a2 a3 true l0_0 a0_1 a0_2 a0_3)))=some (r1,r2):=by rw [if_pos rfl] at H;exact H
   clear H;have H:=H1;clear H1;replace H:=Option.bind_eq_some_iff.mp H;obtain ⟨t455,A90,H⟩:=H
   replace H:(if t455=true then ((sky_isDay.f a3).bind fun t456=>(sky_Between.j0 k a1 a2 a3 (!t456) l0_0 a0_1 a0_2 a0_3)) else (sky_Between.j0 k a1 a2 a3 true l0_0 a0_1 a0_2 a0_3))=some (r1,r2):=H
   have A9:=A0_ A90;clear A90
   by_cases c10:t455=true
   ·subst c10
    have H1:((sky_isDay.f a3).bind fun t456=>(sky_Between.j0 k a1 a2 a3 (!t456) l0_0 a0_1 a0_2 a0_3))=some (r1,r2):=by rw [if_pos rfl] at H;exact H
    clear H;have H:=H1;clear H1;replace H:=Option.bind_eq_some_iff.mp H;obtain ⟨t456,A110,H⟩:=H
    replace H:(sky_Between.j0 k a1 a2 a3 (!t456) l0_0 a0_1 a0_2 a0_3)=some (r1,r2):=H
    have A11:=A0_ A110;clear A110
    have H':=A0_ H
    clear H;obtain ⟨hcz12_0,hcz12_1,hcz12_2,hcz12_3,hfz12_0,hfz12_1,hfz12_2,hfz12_3⟩:=bq4_ BK453.out
    go_wp2_with (first|((with_reducible refine gate_callee (f:=52) rfl ?_);refine goesL_ (some 11) rfl rfl Tryz.func52 (by kernel_rfl) rfl #[.agg #[.slice A0_0 l0_0.length c0_0,.int .i64 a0_1,.int .i64 a0_2,.int .i64 a0_3]] rfl y1_ ?_;(with_reducible refine (sky_isSky.calls k _ _ l0_0 a0_1 a0_2 a0_3 true _ ?side1 ?side2 A7.out).mono ?_);(case side1=>repeat (first|exact (Kd.C_below HR0_0.out HB.out)|(with_reducible refine Kd.C_alloc ?_ _)|(with_reducible refine Kd.C_drewN ?_ _)|(with_reducible refine Kd.C_drew ?_)));(case side2=>exact HC0_0.out);rintro e w13 ⟨rfl,hb⟩;refine ⟨_,rfl,?_⟩;have n0_:=A0_ (blk_below (g:=gb453) (o:=.cells #[.slice A0_0 l0_0.length c0_0,.int .i64 a0_1,.int .i64 a0_2,.int .i64 a0_3] 28 (0,0)) (bd_ BK453.out) hb);have n1_:=A0_ (below_step y26_ hb);clear BK453;clear HB;have BK453:=n0_;have HB:=n1_;clear n0_ n1_;(try clear hb);(try clear hb2);(try clear hk);(try clear hi);obtain ⟨hcz14_0,hcz14_1,hcz14_2,hcz14_3,hfz14_0,hfz14_1,hfz14_2,hfz14_3⟩:=bq4_ BK453.out)|(go_at_call 81;(with_reducible refine (sky_areTwo.calls _ _ l0_0 a0_1 a0_2 a0_3 a1 a2 true _ ?side1 ?side2 A9.out).mono ?_);(case side1=>repeat (first|exact (Kd.C_below HR0_0.out HB.out)|(with_reducible refine Kd.C_alloc ?_ _)|(with_reducible refine Kd.C_drewN ?_ _)|(with_reducible refine Kd.C_drew ?_)));(case side2=>exact HC0_0.out);rintro e w15 ⟨rfl,hb⟩;have n0_:=A0_ (blk_below (g:=gb453) (o:=.cells #[.slice A0_0 l0_0.length c0_0,.int .i64 a0_1,.int .i64 a0_2,.int .i64 a0_3] 28 (0,0)) (bd_ BK453.out) hb);have n1_:=A0_ (below_step y26_ hb);clear BK453;clear HB;have BK453:=n0_;have HB:=n1_;clear n0_ n1_;(try clear hb);(try clear hb2);(try clear hk);(try clear hi))|(go_at_call 62;(with_reducible refine (sky_isDay.calls a3 t456 _ A11.out).mono ?_);rintro e w' ⟨rfl,⟨nd,rfl⟩⟩))
    go_meet
    case rel=>exact ⟨_,(!t456),y5_,H',⟨by first|omega|exact Nat.le_refl _⟩,⟨by (with_reducible repeat (first|refine blk_drewN ?_ _|refine blk_drew ?_|refine blk_alloc ?_ _));exact BK453.out⟩,⟨y26_⟩⟩
   ·replace c10:=Bool.eq_false_iff.mpr c10;subst c10
    have H1:(sky_Between.j0 k a1 a2 a3 true l0_0 a0_1 a0_2 a0_3)=some (r1,r2):=by rw [if_neg (show ¬ (false=true) by decide)] at H;exact H
    clear H;have H:=H1;clear H1
    have H':=A0_ H
    clear H;obtain ⟨hcz16_0,hcz16_1,hcz16_2,hcz16_3,hfz16_0,hfz16_1,hfz16_2,hfz16_3⟩:=bq4_ BK453.out
    go_wp2_with (first|((with_reducible refine gate_callee (f:=52) rfl ?_);refine goesL_ (some 11) rfl rfl Tryz.func52 (by kernel_rfl) rfl #[.agg #[.slice A0_0 l0_0.length c0_0,.int .i64 a0_1,.int .i64 a0_2,.int .i64 a0_3]] rfl y1_ ?_;(with_reducible refine (sky_isSky.calls k _ _ l0_0 a0_1 a0_2 a0_3 true _ ?side1 ?side2 A7.out).mono ?_);(case side1=>repeat (first|exact (Kd.C_below HR0_0.out HB.out)|(with_reducible refine Kd.C_alloc ?_ _)|(with_reducible refine Kd.C_drewN ?_ _)|(with_reducible refine Kd.C_drew ?_)));(case side2=>exact HC0_0.out);rintro e w17 ⟨rfl,hb⟩;refine ⟨_,rfl,?_⟩;have n0_:=A0_ (blk_below (g:=gb453) (o:=.cells #[.slice A0_0 l0_0.length c0_0,.int .i64 a0_1,.int .i64 a0_2,.int .i64 a0_3] 28 (0,0)) (bd_ BK453.out) hb);have n1_:=A0_ (below_step y26_ hb);clear BK453;clear HB;have BK453:=n0_;have HB:=n1_;clear n0_ n1_;(try clear hb);(try clear hb2);(try clear hk);(try clear hi);obtain ⟨hcz18_0,hcz18_1,hcz18_2,hcz18_3,hfz18_0,hfz18_1,hfz18_2,hfz18_3⟩:=bq4_ BK453.out)|(go_at_call 81;(with_reducible refine (sky_areTwo.calls _ _ l0_0 a0_1 a0_2 a0_3 a1 a2 false _ ?side1 ?side2 A9.out).mono ?_);(case side1=>repeat (first|exact (Kd.C_below HR0_0.out HB.out)|(with_reducible refine Kd.C_alloc ?_ _)|(with_reducible refine Kd.C_drewN ?_ _)|(with_reducible refine Kd.C_drew ?_)));(case side2=>exact HC0_0.out);rintro e w19 ⟨rfl,hb⟩;have n0_:=A0_ (blk_below (g:=gb453) (o:=.cells #[.slice A0_0 l0_0.length c0_0,.int .i64 a0_1,.int .i64 a0_2,.int .i64 a0_3] 28 (0,0)) (bd_ BK453.out) hb);have n1_:=A0_ (below_step y26_ hb);clear BK453;clear HB;have BK453:=n0_;have HB:=n1_;clear n0_ n1_;(try clear hb);(try clear hb2);(try clear hk);(try clear hi)))
    go_meet
    case rel=>exact ⟨_,(true),y5_,H',⟨by first|omega|exact Nat.le_refl _⟩,⟨by (with_reducible repeat (first|refine blk_drewN ?_ _|refine blk_drew ?_|refine blk_alloc ?_ _));exact BK453.out⟩,⟨y26_⟩⟩
  ·replace c8:=Bool.eq_false_iff.mpr c8;subst c8
   have H1:(sky_Between.j0 k a1 a2 a3 true l0_0 a0_1 a0_2 a0_3)=some (r1,r2):=by rw [if_neg (show ¬ (false=true) by decide)] at H;exact H
   clear H;have H:=H1;clear H1
   have H':=A0_ H
   clear H;obtain ⟨hcz20_0,hcz20_1,hcz20_2,hcz20_3,hfz20_0,hfz20_1,hfz20_2,hfz20_3⟩:=bq4_ BK453.out
   go_wp2_with (first|((with_reducible refine gate_callee (f:=52) rfl ?_);refine goesL_ (some 11) rfl rfl Tryz.func52 (by kernel_rfl) rfl #[.agg #[.slice A0_0 l0_0.length c0_0,.int .i64 a0_1,.int .i64 a0_2,.int .i64 a0_3]] rfl y1_ ?_;(with_reducible refine (sky_isSky.calls k _ _ l0_0 a0_1 a0_2 a0_3 false _ ?side1 ?side2 A7.out).mono ?_);(case side1=>repeat (first|exact (Kd.C_below HR0_0.out HB.out)|(with_reducible refine Kd.C_alloc ?_ _)|(with_reducible refine Kd.C_drewN ?_ _)|(with_reducible refine Kd.C_drew ?_)));(case side2=>exact HC0_0.out);rintro e w21 ⟨rfl,hb⟩;refine ⟨_,rfl,?_⟩;have n0_:=A0_ (blk_below (g:=gb453) (o:=.cells #[.slice A0_0 l0_0.length c0_0,.int .i64 a0_1,.int .i64 a0_2,.int .i64 a0_3] 28 (0,0)) (bd_ BK453.out) hb);have n1_:=A0_ (below_step y26_ hb);clear BK453;clear HB;have BK453:=n0_;have HB:=n1_;clear n0_ n1_;(try clear hb);(try clear hb2);(try clear hk);(try clear hi)))
   go_meet
   case rel=>exact ⟨_,(true),y5_,H',⟨by first|omega|exact Nat.le_refl _⟩,⟨by (with_reducible repeat (first|refine blk_drewN ?_ _|refine blk_drew ?_|refine blk_alloc ?_ _));exact BK453.out⟩,⟨y26_⟩⟩
 case rest=>
  clear HC5;(try clear c1);(try clear p2);(try clear c3);(try clear c5);(try clear c8);(try clear c10);(try clear hcz12_0);(try clear hcz12_1);(try clear hcz12_2);(try clear hcz12_3);(try clear hcz14_0);(try clear hcz14_1);(try clear hcz14_2);(try clear hcz14_3);(try clear hcz16_0);(try clear hcz16_1);(try clear hcz16_2);(try clear hcz16_3);(try clear hcz18_0);(try clear hcz18_1);(try clear hcz18_2);(try clear hcz18_3);(try clear hcz20_0);(try clear hcz20_1);(try clear hcz20_2);(try clear hcz20_3);(try clear hfz12_0);(try clear hfz12_1);(try clear hfz12_2);(try clear hfz12_3);(try clear hfz14_0);(try clear hfz14_1);(try clear hfz14_2);(try clear hfz14_3);(try clear hfz16_0);(try clear hfz16_1);(try clear hfz16_2);(try clear hfz16_3);(try clear hfz18_0);(try clear hfz18_1);(try clear hfz18_2);(try clear hfz18_3);(try clear hfz20_0);(try clear hfz20_1);(try clear hfz20_2);(try clear hfz20_3)
  obtain ⟨kq,x24_4,rfl,HA,HJ4,BK453,HB⟩:=hcut
  cases kq with
  |zero=>exact absurd HA.out (by simp [sky_Between.j0])
  |succ kj4=>
   have H:=HA.out
   clear HA
   simp only [sky_Between.j0] at H
   by_cases c22:x24_4=true
   ·subst c22
    have H1:(some (0,2))=some (r1,r2):=by rw [if_pos rfl] at H;exact H
    clear H;have H:=H1;clear H1
    simp only [Option.some.injEq,Prod.mk.injEq] at H
    obtain ⟨rfl,rfl⟩:=H;go_wp2
    go_ret2
    exact ⟨y3_,y26_⟩
   ·replace c22:=Bool.eq_false_iff.mpr c22;subst c22
    have H1:((ss_ahead.f kj4 l0_0 a0_1 a0_2 a0_3 a3 a1 a2).bind fun t457=>((sky_around.f t457).bind fun t458=>(some (t458,0))))=some (r1,r2):=by rw [if_neg (show ¬ (false=true) by decide)] at H;exact H
    clear H;have H:=H1;clear H1;replace H:=Option.bind_eq_some_iff.mp H;obtain ⟨t457,A230,H⟩:=H
    replace H:((sky_around.f t457).bind fun t458=>(some (t458,0)))=some (r1,r2):=H
    have A23:=A0_ A230;clear A230;replace H:=Option.bind_eq_some_iff.mp H;obtain ⟨t458,A240,H⟩:=H
    replace H:(some (t458,0))=some (r1,r2):=H
    have A24:=A0_ A240;clear A240
    simp only [Option.some.injEq,Prod.mk.injEq] at H
    obtain ⟨rfl,rfl⟩:=H;obtain ⟨hcz25_0,hcz25_1,hcz25_2,hcz25_3,hfz25_0,hfz25_1,hfz25_2,hfz25_3⟩:=bq4_ BK453.out
    go_wp2_with (first|((with_reducible refine gate_callee (f:=82) rfl ?_);refine goesL_ (some 30) rfl rfl Tryz.func82 (by kernel_rfl) rfl #[.agg #[.slice A0_0 l0_0.length c0_0,.int .i64 a0_1,.int .i64 a0_2,.int .i64 a0_3,.int .i64 a3],.int .i64 a1,.int .i64 a2] rfl y1_ ?_;(with_reducible refine (ss_ahead.calls kj4 _ _ l0_0 a0_1 a0_2 a0_3 a3 a1 a2 t457 _ ?side1 ?side2 A23.out).mono ?_);(case side1=>repeat (first|exact (Kd.C_below HR0_0.out HB.out)|(with_reducible refine Kd.C_alloc ?_ _)|(with_reducible refine Kd.C_drewN ?_ _)|(with_reducible refine Kd.C_drew ?_)));(case side2=>exact HC0_0.out);rintro e w26 ⟨rfl,hb⟩;refine ⟨_,rfl,?_⟩;have n0_:=A0_ (blk_below (g:=gb453) (o:=.cells #[.slice A0_0 l0_0.length c0_0,.int .i64 a0_1,.int .i64 a0_2,.int .i64 a0_3] 28 (0,0)) (bd_ BK453.out) hb);have n1_:=A0_ (below_step y26_ hb);clear BK453;clear HB;have BK453:=n0_;have HB:=n1_;clear n0_ n1_;(try clear hb);(try clear hb2);(try clear hk);(try clear hi))|((with_reducible refine gate_callee (f:=63) rfl ?_);refine goesL_ (some 31) rfl rfl Tryz.func63 (by kernel_rfl) rfl #[.int .i64 t457] rfl y1_ ?_;(with_reducible refine (sky_around.calls t457 t458 _ A24.out).mono ?_);rintro e w' ⟨rfl,⟨nd,rfl⟩⟩;refine ⟨_,rfl,?_⟩))
    go_ret2
    exact ⟨y3_,y26_⟩
def tr_Decimal.l0:Nat→Int→ByteArray→Int→Option (ByteArray)
 |0,_,_,_=>none
 |k+1,x0,x3,x4=>if x4=0 then (if x3.toList=([]:List UInt8) then ((some (([(wrap64 (48+(mx (Int.tmod x4 10) (wrap64 (-(Int.tmod x4 10)))))) % 256]:List Int):List Int)).bind fun y521=>(if (strOfNums y521).size+x3.size≤9223372036854775807 then (tr_Decimal.l0 k x0 ((strOfNums y521) ++ x3) (wrap64 (Int.tdiv x4 10))) else (none))) else (if x0<0 then (if 1+x3.size≤9223372036854775807 then (some ((⟨#[45]⟩:ByteArray) ++ x3)) else (none)) else (some x3))) else ((some (([(wrap64 (48+(mx (Int.tmod x4 10) (wrap64 (-(Int.tmod x4 10)))))) % 256]:List Int):List Int)).bind fun y524=>(if (strOfNums y524).size+x3.size≤9223372036854775807 then (tr_Decimal.l0 k x0 ((strOfNums y524) ++ x3) (wrap64 (Int.tdiv x4 10))) else (none)))
def tr_Decimal.f (k:Nat) (a0:Int):Option (ByteArray):=tr_Decimal.l0 k a0 (⟨#[]⟩:ByteArray) a0
set_option maxHeartbeats 8000000 in
set_option maxRecDepth 100000 in
theorem tr_Decimal.calls (k:Nat) (a0:Int) (r:ByteArray) (w:World) (h:tr_Decimal.f k a0=some r):
  Calls Tryz.prog 88 #[.int .i64 a0] w fun e w'=>e=.returned (.string r)∧Below w.heap.size w w':=by
 have HB:=A0_ (Below.refl w.heap.size w)
 have H:(tr_Decimal.l0 k a0 (⟨#[]⟩:ByteArray) a0)=some r:=h
 clear h
 have H':=A0_ H
 clear H
 go_enter Tryz.func88,Tryz.ntmps88
 go_wp2
 go_loopg [3,4] k (fun kq v3 v4 w'=>∃ (x3_1:ByteArray) (x4_1:Int),v3=.string x3_1∧v4=.int .i64 x4_1∧Aside0 (tr_Decimal.l0 kq a0 x3_1 x4_1=some r)∧Aside0 (kq≤k)∧Aside0 (Below w.heap.size w w'))
 case atStart=>exact ⟨((⟨#[]⟩:ByteArray)),(a0),y5_,y5_,H',⟨Nat.le_refl _⟩,⟨y0_⟩⟩
 case round=>
  clear H'
  obtain ⟨x3_1,x4_1,rfl,rfl,HA,HK1,HB⟩:=hrel
  cases gk with
  |zero=>exact absurd HA.out (by simp [tr_Decimal.l0])
  |succ k1=>
   have H:=HA.out
   clear HA
   simp only [tr_Decimal.l0] at H
   by_cases c2:x4_1=0
   ·rw [if_pos c2] at H
    have c2b0:(x4_1 == 0)=true:=beq_iff_eq.mpr c2
    have c2b1:(x4_1 != 0)=false:=bne_eq_false_iff_eq.mpr c2
    clear c2
    by_cases c3:x3_1.toList=([]:List UInt8)
    ·rw [if_pos c3] at H
     have c3b0:(x3_1.toList == ([]:List UInt8))=true:=beq_iff_eq.mpr c3
     have c3b1:(x3_1.toList != ([]:List UInt8))=false:=bne_eq_false_iff_eq.mpr c3
     clear c3
     obtain ⟨ji4,hji4⟩:∃ j_:Int,(mx (Int.tmod x4_1 10) (wrap64 (-(Int.tmod x4_1 10))))=j_:=⟨_,rfl⟩
     replace H:((some (([(wrap64 (48+(ji4))) % 256]:List Int):List Int)).bind fun y521=>(if (strOfNums y521).size+x3_1.size≤9223372036854775807 then (tr_Decimal.l0 k1 a0 ((strOfNums y521) ++ x3_1) (wrap64 (Int.tdiv x4_1 10))) else (none)))=some r:=by first|(rw [hji4] at H;exact H)|(simp only [hji4] at H ⊢;exact H)
     have hji4_:(if (Int.tmod x4_1 10)<(wrap64 (-(Int.tmod x4_1 10))) then (wrap64 (-(Int.tmod x4_1 10))) else (Int.tmod x4_1 10))=ji4:=hji4
     obtain ⟨y521,hy521⟩:∃ y_:List Int,y_=(([(wrap64 (48+(ji4))) % 256]:List Int)):=⟨_,rfl⟩
     replace H:(if (strOfNums y521).size+x3_1.size≤9223372036854775807 then (tr_Decimal.l0 k1 a0 ((strOfNums y521) ++ x3_1) (wrap64 (Int.tdiv x4_1 10))) else (none))=some r:=by first|(rw [hy521];with_reducible exact H)|(have H2_:=(Option.bind_some _ _).symm.trans H;rw [hy521];with_reducible exact H2_)|(have H2_:=(Option.bind_some _ _).symm.trans H;with_reducible exact H2_)|with_reducible exact H|(rw [hy521];exact H)|exact H
     have Ny521:=A0_ hy521;clear hy521
     by_cases c5:(strOfNums y521).size+x3_1.size≤9223372036854775807
     ·rw [if_pos c5] at H;have c5b0:=eq_true c5;have c5b1:decide ((strOfNums y521).size+x3_1.size≤9223372036854775807)=true:=decide_eq_true c5
      try have c5b2:(9223372036854775807<(strOfNums y521).size+x3_1.size)=False:=eq_false (Nat.not_lt.2 c5)
      have H':=A0_ H
      clear H
      go_wp2_with (first|((with_reducible refine gate_dst (N:=23) rfl ?_);refine Kd.R_lit (Kd.int .u8) _ 5 ?hg (N:=23) ?hd (xs:=([(wrap64 (48+(ji4))) % 256]:List Int)) (inner:=[.int .u8 ((wrap64 (48+(ji4))) % 256)]) (ok:=fun _=>True) (okp:=fun _=>True) ?hr ?hp (fun _ hk=>hk) trivial (Below.refl _ _) (Nat.le_refl _) (by simp) ?_;(case hd=>rfl);(case hg=>rfl);(case hr=>first|(go_simp;done)|(go_simp;rfl));(case hp=>exact (Reps.one (show Kd.M (Kd.int .u8) _ _ _ ((wrap64 (48+(ji4))) % 256) [.int .u8 ((wrap64 (48+(ji4))) % 256)] from rfl) (Reps.none _ _)));intro v522 w6 ho7 hb hg_ hnew_;clear hg_ hnew_;(first|rw [← Ny521.out] at ho7|(simp only [Int.reduceToNat] at ho7;rw [← Ny521.out] at ho7));have n0_:=A0_ (Kd.R_lower ho7 (below_size y0_));have n1_:=A0_ (below_step y0_ hb);clear HB;have HO523:=n0_;have HB:=n1_;clear n0_ n1_;clear hb ho7;have hcv8:=own_string (P:=Tryz.prog) Tryz.underlying146 Tryz.underlying5 Tryz.underlying9 (Kd.own_of_R HO523.out)))
      go_roundg k1
      case measure=>have:=HK1.out;omega
      case rel=>exact ⟨((strOfNums y521) ++ x3_1),(wrap64 (Int.tdiv x4_1 10)),y5_,y5_,H',⟨by have:=HK1.out;omega⟩,⟨y0_⟩⟩
     ·rw [if_neg c5] at H;exact absurd H (by simp)
    ·rw [if_neg c3] at H
     have c3b0:(x3_1.toList == ([]:List UInt8))=false:=beq_eq_false_iff_ne.mpr c3
     have c3b1:(x3_1.toList != ([]:List UInt8))=true:=bne_iff_ne.mpr c3
     by_cases c9:a0<0
     ·rw [if_pos c9] at H;have c9b0:decide (a0<0)=true:=decide_eq_true c9;clear c9
      by_cases c10:1+x3_1.size≤9223372036854775807
      ·rw [if_pos c10] at H;have c10b0:=eq_true c10;have c10b1:decide (1+x3_1.size≤9223372036854775807)=true:=decide_eq_true c10
       try have c10b2:(9223372036854775807<1+x3_1.size)=False:=eq_false (Nat.not_lt.2 c10)
       obtain rfl:=Option.some.inj H;go_wp2;go_ret
       exact ⟨y3_,y0_⟩
      ·rw [if_neg c10] at H;exact absurd H (by simp)
     ·rw [if_neg c9] at H;have c9b0:decide (a0<0)=false:=decide_eq_false c9;clear c9;obtain rfl:=Option.some.inj H;go_wp2;go_ret
      exact ⟨y3_,y0_⟩
   ·rw [if_neg c2] at H
    have c2b0:(x4_1 == 0)=false:=beq_eq_false_iff_ne.mpr c2
    have c2b1:(x4_1 != 0)=true:=bne_iff_ne.mpr c2
    obtain ⟨ji11,hji11⟩:∃ j_:Int,(mx (Int.tmod x4_1 10) (wrap64 (-(Int.tmod x4_1 10))))=j_:=⟨_,rfl⟩
    replace H:((some (([(wrap64 (48+(ji11))) % 256]:List Int):List Int)).bind fun y524=>(if (strOfNums y524).size+x3_1.size≤9223372036854775807 then (tr_Decimal.l0 k1 a0 ((strOfNums y524) ++ x3_1) (wrap64 (Int.tdiv x4_1 10))) else (none)))=some r:=by first|(rw [hji11] at H;exact H)|(simp only [hji11] at H ⊢;exact H)
    (try rw [hji11] at hji4)
    have hji11_:(if (Int.tmod x4_1 10)<(wrap64 (-(Int.tmod x4_1 10))) then (wrap64 (-(Int.tmod x4_1 10))) else (Int.tmod x4_1 10))=ji11:=hji11
    obtain ⟨y524,hy524⟩:∃ y_:List Int,y_=(([(wrap64 (48+(ji11))) % 256]:List Int)):=⟨_,rfl⟩
    replace H:(if (strOfNums y524).size+x3_1.size≤9223372036854775807 then (tr_Decimal.l0 k1 a0 ((strOfNums y524) ++ x3_1) (wrap64 (Int.tdiv x4_1 10))) else (none))=some r:=by first|(rw [hy524];with_reducible exact H)|(have H2_:=(Option.bind_some _ _).symm.trans H;rw [hy524];with_reducible exact H2_)|(have H2_:=(Option.bind_some _ _).symm.trans H;with_reducible exact H2_)|with_reducible exact H|(rw [hy524];exact H)|exact H
    have Ny524:=A0_ hy524;clear hy524
    by_cases c12:(strOfNums y524).size+x3_1.size≤9223372036854775807
    ·rw [if_pos c12] at H;have c12b0:=eq_true c12;have c12b1:decide ((strOfNums y524).size+x3_1.size≤9223372036854775807)=true:=decide_eq_true c12
     try have c12b2:(9223372036854775807<(strOfNums y524).size+x3_1.size)=False:=eq_false (Nat.not_lt.2 c12)
     have H':=A0_ H
     clear H
     go_wp2_with (first|((with_reducible refine gate_dst (N:=23) rfl ?_);refine Kd.R_lit (Kd.int .u8) _ 5 ?hg (N:=23) ?hd (xs:=([(wrap64 (48+(ji11))) % 256]:List Int)) (inner:=[.int .u8 ((wrap64 (48+(ji11))) % 256)]) (ok:=fun _=>True) (okp:=fun _=>True) ?hr ?hp (fun _ hk=>hk) trivial (Below.refl _ _) (Nat.le_refl _) (by simp) ?_;(case hd=>rfl);(case hg=>rfl);(case hr=>first|(go_simp;done)|(go_simp;rfl));(case hp=>exact (Reps.one (show Kd.M (Kd.int .u8) _ _ _ ((wrap64 (48+(ji11))) % 256) [.int .u8 ((wrap64 (48+(ji11))) % 256)] from rfl) (Reps.none _ _)));intro v525 w13 ho14 hb hg_ hnew_;clear hg_ hnew_;(first|rw [← Ny524.out] at ho14|(simp only [Int.reduceToNat] at ho14;rw [← Ny524.out] at ho14));have n0_:=A0_ (Kd.R_lower ho14 (below_size y0_));have n1_:=A0_ (below_step y0_ hb);clear HB;have HO526:=n0_;have HB:=n1_;clear n0_ n1_;clear hb ho14;have hcv15:=own_string (P:=Tryz.prog) Tryz.underlying146 Tryz.underlying5 Tryz.underlying9 (Kd.own_of_R HO526.out)))
     go_roundg k1
     case measure=>have:=HK1.out;omega
     case rel=>exact ⟨((strOfNums y524) ++ x3_1),(wrap64 (Int.tdiv x4_1 10)),y5_,y5_,H',⟨by have:=HK1.out;omega⟩,⟨y0_⟩⟩
    ·rw [if_neg c12] at H;exact absurd H (by simp)
def tr_row.l0:Nat→ByteArray→List Int→Int→Option (ByteArray)
 |0,_,_,_=>none
 |k+1,x0,x1,x5=>if x5<(x1.length:Int) then (if x0.size+1≤9223372036854775807 then (if 0≤x5 then ((tr_Decimal.f k (rd x1 x5)).bind fun t528=>(if (x0 ++ (⟨#[32]⟩:ByteArray)).size+t528.size≤9223372036854775807 then (tr_row.l0 k ((x0 ++ (⟨#[32]⟩:ByteArray)) ++ t528) x1 (wrap64 (x5+1))) else (none))) else (none)) else (none)) else (some x0)
def tr_row.f (k:Nat) (a0:ByteArray) (l1:List Int):Option (ByteArray):=tr_row.l0 k a0 l1 0
set_option maxHeartbeats 8000000 in
set_option maxRecDepth 100000 in
theorem tr_row.calls (k:Nat) (a0:ByteArray) (A1:Option Addr) (c1:Nat) (l1:List Int) (r:ByteArray) (w:World) (hr1:Kd.C (Kd.int .i64) w A1 l1.length l1) (hc1:l1.length≤c1) (h:tr_row.f k a0 l1=some r):
  Calls Tryz.prog 87 #[.string a0,.slice A1 l1.length c1] w fun e w'=>e=.returned (.string r)∧Below w.heap.size w w':=by
 have HR1:=A0_ hr1;have HC1:=A0_ hc1;clear hr1 hc1
 have HB:=A0_ (Below.refl w.heap.size w)
 have H:(tr_row.l0 k a0 l1 0)=some r:=h
 clear h
 have H':=A0_ H
 clear H
 go_enter Tryz.func87,Tryz.ntmps87
 go_wp2
 go_loopg [0,5] k (fun kq v0 v5 w'=>∃ (x0_1:ByteArray) (x5_1:Int),v0=.string x0_1∧v5=.int .i64 x5_1∧Aside0 (tr_row.l0 kq x0_1 l1 x5_1=some r)∧Aside0 (kq≤k)∧Aside0 (Below w.heap.size w w'))
 case atStart=>exact ⟨(a0),(0),y5_,y5_,H',⟨Nat.le_refl _⟩,⟨y0_⟩⟩
 case round=>
  clear H'
  (try clear c1);(try clear p2)
  obtain ⟨x0_1,x5_1,rfl,rfl,HA,HK1,HB⟩:=hrel
  cases gk with
  |zero=>exact absurd HA.out (by simp [tr_row.l0])
  |succ k1=>
   have H:=HA.out
   clear HA
   simp only [tr_row.l0] at H
   by_cases c3:x5_1<(l1.length:Int)
   ·rw [if_pos c3] at H;have c3b0:decide (x5_1<(l1.length:Int))=true:=decide_eq_true c3;clear c3
    by_cases c4:x0_1.size+1≤9223372036854775807
    ·rw [if_pos c4] at H;have c4b0:=eq_true c4;have c4b1:decide (x0_1.size+1≤9223372036854775807)=true:=decide_eq_true c4
     try have c4b2:(9223372036854775807<x0_1.size+1)=False:=eq_false (Nat.not_lt.2 c4)
     by_cases c5:0≤x5_1
     ·rw [if_pos c5] at H;have c5b0:decide (0≤x5_1)=true:=decide_eq_true c5;clear c5;replace H:=Option.bind_eq_some_iff.mp H;obtain ⟨t528,A60,H⟩:=H
      replace H:(if (x0_1 ++ (⟨#[32]⟩:ByteArray)).size+t528.size≤9223372036854775807 then (tr_row.l0 k1 ((x0_1 ++ (⟨#[32]⟩:ByteArray)) ++ t528) l1 (wrap64 (x5_1+1))) else (none))=some r:=H
      have A6:=A0_ A60;clear A60
      by_cases c7:(x0_1 ++ (⟨#[32]⟩:ByteArray)).size+t528.size≤9223372036854775807
      ·rw [if_pos c7] at H
       have c7s:x0_1.size+1+t528.size≤9223372036854775807:=by
        have h_:=c7
        simp only [ByteArray.size_append] at h_
        exact h_
       have c7b0:=eq_true c7;have c7b1:decide ((x0_1 ++ (⟨#[32]⟩:ByteArray)).size+t528.size≤9223372036854775807)=true:=decide_eq_true c7
       try have c7b2:(9223372036854775807<(x0_1 ++ (⟨#[32]⟩:ByteArray)).size+t528.size)=False:=eq_false (Nat.not_lt.2 c7)
       have H':=A0_ H
       clear H
       have p527:0≤(x5_1:Int):=of_decide_eq_true y6_
       have q527:x5_1<(l1.length:Int):=of_decide_eq_true y6_
       obtain ⟨ad527,e527,hx527_0⟩:=Kd.at_int HR1.out x5_1 p527 q527
       cases e527
       replace hx527_0:=(HB.out.cell (World.block_lt_of_cell? w _ hx527_0)).trans hx527_0
       replace p527:=eq_true p527
       replace q527:=eq_true q527
       go_wp2_with (first|((with_reducible refine gate_callee (f:=88) rfl ?_);refine goesL_ (some 18) rfl rfl Tryz.func88 (by kernel_rfl) rfl #[.int .i64 (rd l1 x5_1)] rfl y1_ ?_;(with_reducible refine (tr_Decimal.calls k1 (rd l1 x5_1) t528 _ A6.out).mono ?_);rintro e w8 ⟨rfl,hb⟩;refine ⟨_,rfl,?_⟩;have n0_:=A0_ (below_step y0_ hb);clear HB;have HB:=n0_;clear n0_;(try clear hb);(try clear hb2);(try clear hk);(try clear hi)))
       go_roundg k1
       case measure=>have:=HK1.out;omega
       case rel=>exact ⟨((x0_1 ++ (⟨#[32]⟩:ByteArray)) ++ t528),(wrap64 (x5_1+1)),y5_,y5_,H',⟨by have:=HK1.out;omega⟩,⟨y0_⟩⟩
      ·rw [if_neg c7] at H;exact absurd H (by simp)
     ·rw [if_neg c5] at H;exact absurd H (by simp)
    ·rw [if_neg c4] at H;exact absurd H (by simp)
   ·rw [if_neg c3] at H;have c3b0:decide (x5_1<(l1.length:Int))=false:=decide_eq_false c3;clear c3;obtain rfl:=Option.some.inj H;go_wp2;go_ret
    exact ⟨y3_,y0_⟩
end Go.Proofs.YtaidphhkhddemaaGreatDoor.PSky
end
section
namespace Go.Proofs.YtaidphhkhddemaaGreatDoor.PSky
open Go.RowKit Go.Proofs.YtaidphhkhddemaaGreatDoorW.PrintWords Go.Proofs.YtaidphhkhddemaaGreatDoorW.PrintLast Go.Proofs.YtaidphhkhddemaaGreatDoorW.PrintMore
attribute [local go_sem] max2_int min2_int max_two min_two max_three min_three max_four min_four
set_option linter.unusedVariables false
set_option linter.unusedSimpArgs false
mutual
def tr_Print.l0:Nat→List ByteArray→Int→List (S83)→Int→Int→Int→Option (ByteArray)
 |0,_,_,_,_,_,_=>none
 |k+1,x3,x4,x530000,x530001,x530002,x530003=>if x4<(x530000.length:Int) then (if 0≤x4 then ((some (([(rd_T83 x530000 x4).f0.f0,(rd_T83 x530000 x4).f0.f1,(rd_T83 x530000 x4).f1]:List Int):List Int)).bind fun y539=>(if y539.length+((rd_T83 x530000 x4).f2).length<17592186044416 then ((tr_row.f k (⟨#[98,111,100,121]⟩:ByteArray) (y539 ++ ((rd_T83 x530000 x4).f2))).bind fun t545=>(if x3.length<8796093022208 then (tr_Print.l0 k (x3 ++ [t545]) (wrap64 (x4+1)) x530000 x530001 x530002 x530003) else (none))) else (none))) else (none)) else ((tr_row.f k (⟨#[110,111,100,101]⟩:ByteArray) (([x530001,x530002,x530003]:List Int))).bind fun t552=>(if x3.length<8796093022208 then (tr_Print.l1 k (x3 ++ [t552]) (⟨#[]⟩:ByteArray) 0 0) else (none)))
def tr_Print.l1:Nat→List ByteArray→ByteArray→Int→Int→Option (ByteArray)
 |0,_,_,_,_=>none
 |k+1,x3,x6,x7,x8=>if x8<(x3.length:Int) then (tr_Print.l2 k x3 x6 x7 x8 0) else (if x6.size+4≤9223372036854775807 then ((tr_Decimal.f k (wrap64 (Int.tdiv (Int.tmod x7 137) 100))).bind fun t556=>(if (x6 ++ (⟨#[101,110,100,32]⟩:ByteArray)).size+t556.size≤9223372036854775807 then ((tr_Decimal.f k (Int.tmod (wrap64 (Int.tdiv (Int.tmod x7 137) 10)) 10)).bind fun t557=>(if ((x6 ++ (⟨#[101,110,100,32]⟩:ByteArray)) ++ t556).size+t557.size≤9223372036854775807 then ((tr_Decimal.f k (Int.tmod (Int.tmod x7 137) 10)).bind fun t558=>(if (((x6 ++ (⟨#[101,110,100,32]⟩:ByteArray)) ++ t556) ++ t557).size+t558.size≤9223372036854775807 then (if ((((x6 ++ (⟨#[101,110,100,32]⟩:ByteArray)) ++ t556) ++ t557) ++ t558).size+1≤9223372036854775807 then (some (((((x6 ++ (⟨#[101,110,100,32]⟩:ByteArray)) ++ t556) ++ t557) ++ t558) ++ (⟨#[10]⟩:ByteArray))) else (none)) else (none))) else (none))) else (none))) else (none))
def tr_Print.l2:Nat→List ByteArray→ByteArray→Int→Int→Int→Option (ByteArray)
 |0,_,_,_,_,_=>none
 |k+1,x3,x6,x7,x8,x9=>if 0≤x8 then (if x8<(x3.length:Int) then (if x9<((rdOf ByteArray.empty x3 x8).size:Int) then (if 0≤x9 then (tr_Print.l2 k x3 x6 (wrap64 (x7+(wrap64 ((wrap64 ((wrap64 (bt (rdOf ByteArray.empty x3 x8) x9))*(wrap64 (x9+1))))*(wrap64 (x8+1)))))) x8 (wrap64 (x9+1))) else (none)) else (if x6.size+(rdOf ByteArray.empty x3 x8).size≤9223372036854775807 then (if (x6 ++ (rdOf ByteArray.empty x3 x8)).size+1≤9223372036854775807 then (tr_Print.l1 k x3 ((x6 ++ (rdOf ByteArray.empty x3 x8)) ++ (⟨#[10]⟩:ByteArray)) x7 (wrap64 (x8+1))) else (none)) else (none))) else (none)) else (none)
end
def tr_Print.f (k:Nat) (l0_0:List (S83)) (a0_1:Int) (a0_2:Int) (a0_3:Int):Option (ByteArray):=(tr_row.f k (⟨#[115,107,121]⟩:ByteArray) (([(l0_0.length:Int)]:List Int))).bind fun t533=>(tr_Print.l0 k (([t533]:List ByteArray)) 0 l0_0 a0_1 a0_2 a0_3)
set_option maxHeartbeats 8000000 in
set_option maxRecDepth 100000 in
theorem tr_Print.calls (k:Nat) (A0_0:Option Addr) (c0_0:Nat) (l0_0:List (S83)) (a0_1:Int) (a0_2:Int) (a0_3:Int) (r:ByteArray) (w:World) (hr0_0:Kd.C k83 w A0_0 l0_0.length l0_0) (hc0_0:l0_0.length≤c0_0) (h:tr_Print.f k l0_0 a0_1 a0_2 a0_3=some r):
  Calls Tryz.prog 43 #[.agg #[.slice A0_0 l0_0.length c0_0,.int .i64 a0_1,.int .i64 a0_2,.int .i64 a0_3]] w fun e w'=>e=.returned (.string r)∧Below w.heap.size w w':=by
 have hu28:=Tryz.underlying28
 have hu83:=Tryz.underlying83
 have HR0_0:=A0_ hr0_0;have HC0_0:=A0_ hc0_0;clear hr0_0 hc0_0
 have HB:=A0_ (Below.refl w.heap.size w)
 have H:((tr_row.f k (⟨#[115,107,121]⟩:ByteArray) (([(l0_0.length:Int)]:List Int))).bind fun t533=>(tr_Print.l0 k (([t533]:List ByteArray)) 0 l0_0 a0_1 a0_2 a0_3))=some r:=h
 clear h
 obtain ⟨y530,hy530⟩:∃ y_:List Int,y_=(([(l0_0.length:Int)]:List Int)):=⟨_,rfl⟩
 replace H:((tr_row.f k (⟨#[115,107,121]⟩:ByteArray) y530).bind fun t533=>(tr_Print.l0 k (([t533]:List ByteArray)) 0 l0_0 a0_1 a0_2 a0_3))=some r:=by first|(rw [hy530];with_reducible exact H)|(have H2_:=(Option.bind_some _ _).symm.trans H;rw [hy530];with_reducible exact H2_)|(have H2_:=(Option.bind_some _ _).symm.trans H;with_reducible exact H2_)|with_reducible exact H|(rw [hy530];exact H)|exact H
 have Ny530:=A0_ hy530;clear hy530;replace H:=Option.bind_eq_some_iff.mp H;obtain ⟨t533,A20,H⟩:=H
 replace H:(tr_Print.l0 k (([t533]:List ByteArray)) 0 l0_0 a0_1 a0_2 a0_3)=some r:=H
 have A2:=A0_ A20;clear A20
 obtain ⟨y534,hy534⟩:∃ y_:List ByteArray,y_=(([t533]:List ByteArray)):=⟨_,rfl⟩
 replace H:(tr_Print.l0 k y534 0 l0_0 a0_1 a0_2 a0_3)=some r:=by first|(rw [hy534];with_reducible exact H)|(have H2_:=(Option.bind_some _ _).symm.trans H;rw [hy534];with_reducible exact H2_)|(have H2_:=(Option.bind_some _ _).symm.trans H;with_reducible exact H2_)|with_reducible exact H|(rw [hy534];exact H)|exact H
 have Ny534:=A0_ hy534;clear hy534
 have H':=A0_ H
 clear H
 go_enter Tryz.func43,Tryz.ntmps43
 go_wp2_with (first|((with_reducible refine gate_dst (N:=1) rfl ?_);refine box_event ?hg (N:=1) ?hd (cs:=#[.slice A0_0 l0_0.length c0_0,.int .i64 a0_1,.int .i64 a0_2,.int .i64 a0_3]) (t:=28) ?hr ?_;(case hd=>rfl);(case hg=>rfl);(case hr=>first|(go_simp;done)|(go_simp;rfl));intro gb529 hg w3 hbox hb;have n0_:=A0_ (below_step y0_ hb);have n1_:=A0_ (hbox);have n2_:=A0_ ((by rw [hg];exact (below_size y0_):w.heap.size≤gb529));have n3_:=A0_ ((by rw [hg];exact (below_size y0_):w.heap.size≤gb529));clear HB;have HB:=n0_;have BK529:=n1_;have GW529:=n2_;have GE529:=n3_;clear n0_ n1_ n2_ n3_;clear hb hbox hg;obtain ⟨hcz4_0,hcz4_1,hcz4_2,hcz4_3,hfz4_0,hfz4_1,hfz4_2,hfz4_3⟩:=bq4_ BK529.out)|((with_reducible refine gate_dst (N:=13) rfl ?_);refine Kd.R_lit (Kd.int .i64) _ 3 ?hg (N:=13) ?hd (xs:=([(l0_0.length:Int)]:List Int)) (inner:=[.int .i64 (l0_0.length:Int)]) (ok:=fun _=>True) (okp:=fun _=>True) ?hr ?hp (fun _ hk=>hk) trivial (Below.refl _ _) (Nat.le_refl _) (by simp) ?_;(case hd=>rfl);(case hg=>rfl);(case hr=>first|(go_simp;done)|(go_simp;rfl));(case hp=>exact (Reps.one (show Kd.M (Kd.int .i64) _ _ _ (l0_0.length:Int) [.int .i64 (l0_0.length:Int)] from rfl) (Reps.none _ _)));intro v531 w5 ho6 hb hg_ hnew_;clear hg_ hnew_;(first|rw [← Ny530.out] at ho6|(simp only [Int.reduceToNat] at ho6;rw [← Ny530.out] at ho6));have n0_:=A0_ (Kd.R_lower ho6 (below_size ya_));have n1_:=A0_ (blk_below (g:=gb529) (o:=.cells #[.slice A0_0 l0_0.length c0_0,.int .i64 a0_1,.int .i64 a0_2,.int .i64 a0_3] 28 (0,0)) (bd_ BK529.out) hb);have n2_:=A0_ (below_step ya_ hb);clear BK529;clear HB;have HO532:=n0_;have BK529:=n1_;have HB:=n2_;clear n0_ n1_ n2_;clear hb ho6;obtain ⟨Ao7,co7,eo7⟩:=Kd.R_slice HO532.out;subst eo7)|((with_reducible refine gate_callee (f:=87) rfl ?_);refine goesL_ (some 14) rfl rfl Tryz.func87 (by kernel_rfl) rfl #[.string (⟨#[115,107,121]⟩:ByteArray),.slice Ao7 y530.length co7] rfl y1_ ?_;(with_reducible refine (tr_row.calls k (⟨#[115,107,121]⟩:ByteArray) _ _ y530 t533 _ ?side1 ?side2 A2.out).mono ?_);(case side1=>repeat (first|exact (Kd.R_reads' HO532.out).2.2|(with_reducible refine Kd.C_alloc ?_ _)|(with_reducible refine Kd.C_drewN ?_ _)|(with_reducible refine Kd.C_drew ?_)));(case side2=>exact (Kd.R_reads' HO532.out).2.1);rintro e w8 ⟨rfl,hb⟩;refine ⟨_,rfl,?_⟩;have n0_:=A0_ (Kd.R_below (rd_ HO532.out) hb);have n1_:=A0_ (blk_below (g:=gb529) (o:=.cells #[.slice A0_0 l0_0.length c0_0,.int .i64 a0_1,.int .i64 a0_2,.int .i64 a0_3] 28 (0,0)) (bd_ BK529.out) hb);have n2_:=A0_ (below_step ya_ hb);clear HO532;clear BK529;clear HB;have HO532:=n0_;have BK529:=n1_;have HB:=n2_;clear n0_ n1_ n2_;(try clear hb);(try clear hb2);(try clear hk);(try clear hi))|((with_reducible refine gate_dst (N:=15) rfl ?_);refine Kd.R_lit Kd.string _ 9 ?hg (N:=15) ?hd (xs:=([t533]:List ByteArray)) (inner:=[.string t533]) (ok:=fun _=>True) (okp:=fun _=>True) ?hr ?hp (fun _ hk=>hk) trivial (Below.refl _ _) (Nat.le_refl _) (by simp) ?_;(case hd=>rfl);(case hg=>rfl);(case hr=>first|(go_simp;done)|(go_simp;rfl));(case hp=>exact (Reps.one (show Kd.M Kd.string _ _ _ t533 [.string t533] from rfl) (Reps.none _ _)));intro v535 w9 ho10 hb hg_ hnew_;clear hg_ hnew_;(first|rw [← Ny534.out] at ho10|(simp only [Int.reduceToNat] at ho10;rw [← Ny534.out] at ho10));have n0_:=A0_ (Kd.R_below (rd_ HO532.out) hb);have n1_:=A0_ (Kd.R_lower ho10 (below_size ya_));have n2_:=A0_ (blk_below (g:=gb529) (o:=.cells #[.slice A0_0 l0_0.length c0_0,.int .i64 a0_1,.int .i64 a0_2,.int .i64 a0_3] 28 (0,0)) (bd_ BK529.out) hb);have n3_:=A0_ (below_step ya_ hb);clear HO532;clear BK529;clear HB;have HO532:=n0_;have HO536:=n1_;have BK529:=n2_;have HB:=n3_;clear n0_ n1_ n2_ n3_;clear hb ho10))
 go_loopg [3,4] k (fun kq v3 v4 w'=>∃ (x3_1:List ByteArray) (x4_1:Int),v4=.int .i64 x4_1∧Aside0 (tr_Print.l0 kq x3_1 x4_1 l0_0 a0_1 a0_2 a0_3=some r)∧Aside0 (kq≤k)∧Aside0 (Kd.R Kd.string 9 w' w.heap.size (fun _=>True) v3 x3_1)∧Aside0 (w'.heap[gb529]?=some (.cells #[(.slice A0_0 l0_0.length c0_0),.int .i64 a0_1,.int .i64 a0_2,.int .i64 a0_3] 28 (0,0)))∧Aside0 (Below w.heap.size w w'))
 case atStart=>exact ⟨(y534),(0),y5_,H',⟨Nat.le_refl _⟩,⟨by (with_reducible repeat (first|apply Kd.R_alloc|apply Kd.R_drewN|apply Kd.R_drew));exact HO536.out⟩,⟨by (with_reducible repeat (first|refine blk_drewN ?_ _|refine blk_drew ?_|refine blk_alloc ?_ _));exact BK529.out⟩,⟨ya_⟩⟩
 case round=>
  clear H'
  (try clear p2);(try clear c4);(try clear c8);(try clear hcz4_0);(try clear hcz4_1);(try clear hcz4_2);(try clear hcz4_3);(try clear hfz4_0);(try clear hfz4_1);(try clear hfz4_2);(try clear hfz4_3)
  obtain ⟨x3_1,x4_1,rfl,HA,HK1,HO_3,BK529,HB⟩:=hrel
  cases gk with
  |zero=>exact absurd HA.out (by simp [tr_Print.l0])
  |succ k1=>
   have H:=HA.out
   clear HA
   simp only [tr_Print.l0] at H
   by_cases c11:x4_1<(l0_0.length:Int)
   ·rw [if_pos c11] at H;have c11b0:decide (x4_1<(l0_0.length:Int))=true:=decide_eq_true c11;clear c11
    by_cases c12:0≤x4_1
    ·rw [if_pos c12] at H;have c12b0:decide (0≤x4_1)=true:=decide_eq_true c12;clear c12
     obtain ⟨y539,hy539⟩:∃ y_:List Int,y_=(([(rd_T83 l0_0 x4_1).f0.f0,(rd_T83 l0_0 x4_1).f0.f1,(rd_T83 l0_0 x4_1).f1]:List Int)):=⟨_,rfl⟩
     replace H:(if y539.length+((rd_T83 l0_0 x4_1).f2).length<17592186044416 then ((tr_row.f k1 (⟨#[98,111,100,121]⟩:ByteArray) (y539 ++ ((rd_T83 l0_0 x4_1).f2))).bind fun t545=>(if x3_1.length<8796093022208 then (tr_Print.l0 k1 (x3_1 ++ [t545]) (wrap64 (x4_1+1)) l0_0 a0_1 a0_2 a0_3) else (none))) else (none))=some r:=by first|(rw [hy539];with_reducible exact H)|(have H2_:=(Option.bind_some _ _).symm.trans H;rw [hy539];with_reducible exact H2_)|(have H2_:=(Option.bind_some _ _).symm.trans H;with_reducible exact H2_)|with_reducible exact H|(rw [hy539];exact H)|exact H
     have Ny539:=A0_ hy539;clear hy539
     by_cases c13:y539.length+((rd_T83 l0_0 x4_1).f2).length<17592186044416
     ·rw [if_pos c13] at H;have LMc13:=A0_ c13;clear c13
      obtain ⟨y542,hy542⟩:∃ y_:List Int,y_=(y539 ++ ((rd_T83 l0_0 x4_1).f2)):=⟨_,rfl⟩
      replace H:((tr_row.f k1 (⟨#[98,111,100,121]⟩:ByteArray) y542).bind fun t545=>(if x3_1.length<8796093022208 then (tr_Print.l0 k1 (x3_1 ++ [t545]) (wrap64 (x4_1+1)) l0_0 a0_1 a0_2 a0_3) else (none)))=some r:=by first|(rw [hy542];with_reducible exact H)|(have H2_:=(Option.bind_some _ _).symm.trans H;rw [hy542];with_reducible exact H2_)|(have H2_:=(Option.bind_some _ _).symm.trans H;with_reducible exact H2_)|with_reducible exact H|(rw [hy542];exact H)|exact H
      have Ny542:=A0_ hy542;clear hy542;replace H:=Option.bind_eq_some_iff.mp H;obtain ⟨t545,A140,H⟩:=H
      replace H:(if x3_1.length<8796093022208 then (tr_Print.l0 k1 (x3_1 ++ [t545]) (wrap64 (x4_1+1)) l0_0 a0_1 a0_2 a0_3) else (none))=some r:=H
      have A14:=A0_ A140;clear A140
      by_cases c15:x3_1.length<8796093022208
      ·rw [if_pos c15] at H;have LMc15:=A0_ c15;clear c15
       obtain ⟨y546,hy546⟩:∃ y_:List ByteArray,y_=(x3_1 ++ [t545]):=⟨_,rfl⟩
       replace H:(tr_Print.l0 k1 y546 (wrap64 (x4_1+1)) l0_0 a0_1 a0_2 a0_3)=some r:=by first|(rw [hy546];with_reducible exact H)|(have H2_:=(Option.bind_some _ _).symm.trans H;rw [hy546];with_reducible exact H2_)|(have H2_:=(Option.bind_some _ _).symm.trans H;with_reducible exact H2_)|with_reducible exact H|(rw [hy546];exact H)|exact H
       have Ny546:=A0_ hy546;clear hy546
       have H':=A0_ H
       clear H;obtain ⟨hcz16_0,hcz16_1,hcz16_2,hcz16_3,hfz16_0,hfz16_1,hfz16_2,hfz16_3⟩:=bq4_ BK529.out
       have p537:0≤(x4_1:Int):=of_decide_eq_true y6_
       have q537:x4_1<(l0_0.length:Int):=of_decide_eq_true y6_
       obtain ⟨ad537,A537_3,c537_3,e537,hx537_0,hx537_1,hx537_2,hx537_3,hl537_3,hi537_3⟩:=at_T83 HR0_0.out x4_1 p537 q537
       cases e537
       replace hx537_0:=(HB.out.cell (World.block_lt_of_cell? w _ hx537_0)).trans hx537_0
       replace hx537_1:=(HB.out.cell (World.block_lt_of_cell? w _ hx537_1)).trans hx537_1
       replace hx537_2:=(HB.out.cell (World.block_lt_of_cell? w _ hx537_2)).trans hx537_2
       replace hx537_3:=(HB.out.cell (World.block_lt_of_cell? w _ hx537_3)).trans hx537_3
       have HR537_3:=A0_ hi537_3;have HC537_3:=A0_ hl537_3;clear hi537_3 hl537_3
       replace p537:=eq_true p537
       replace q537:=eq_true q537
       go_wp2_with (first|((with_reducible refine gate_dst (N:=5) rfl ?_);refine box_event ?hg (N:=5) ?hd (cs:=#[.int .i64 0,.int .i64 0,.int .i64 0,.slice none 0 0]) (t:=83) ?hr ?_;(case hd=>rfl);(case hg=>rfl);(case hr=>first|(go_simp;done)|(go_simp;rfl));intro gb538 hg w17 hbox hb;have n0_:=A0_ (Kd.R_below (rd_ HO_3.out) hb);have n1_:=A0_ (blk_below (g:=gb529) (o:=.cells #[.slice (some ad537) l0_0.length c0_0,.int .i64 a0_1,.int .i64 a0_2,.int .i64 a0_3] 28 (0,0)) (bd_ BK529.out) hb);have n2_:=A0_ (below_step ya_ hb);have n3_:=A0_ (hbox);have n4_:=A0_ ((by rw [hg];exact (below_size ya_):w.heap.size≤gb538));have n5_:=A0_ ((by rw [hg];exact (below_size ya_):w.heap.size≤gb538));have n6_:=A0_ ((by rw [hg];exact Nat.ne_of_lt (blk_lt (g:=gb529) (o:=.cells #[.slice (some ad537) l0_0.length c0_0,.int .i64 a0_1,.int .i64 a0_2,.int .i64 a0_3] 28 (0,0)) (bd_ BK529.out)):gb529≠gb538));have n7_:=A0_ ((by rw [hg];exact Nat.ne_of_gt (blk_lt (g:=gb529) (o:=.cells #[.slice (some ad537) l0_0.length c0_0,.int .i64 a0_1,.int .i64 a0_2,.int .i64 a0_3] 28 (0,0)) (bd_ BK529.out)):gb538≠gb529));clear HO_3;clear BK529;clear HB;have HO_3:=n0_;have BK529:=n1_;have HB:=n2_;have BK538:=n3_;have GW538:=n4_;have GE538:=n5_;have NB529_538:=n6_;have NB538_529:=n7_;clear n0_ n1_ n2_ n3_ n4_ n5_ n6_ n7_;clear hb hbox hg;have hnb18:=NB538_529.out;have hnc18:=NB529_538.out;obtain ⟨hcz19_0,hcz19_1,hcz19_2,hcz19_3,hfz19_0,hfz19_1,hfz19_2,hfz19_3⟩:=bq4_ BK538.out)|((with_reducible refine gate_dst (N:=37) rfl ?_);refine Kd.R_lit (Kd.int .i64) _ 3 ?hg (N:=37) ?hd (xs:=([(rd_T83 l0_0 x4_1).f0.f0,(rd_T83 l0_0 x4_1).f0.f1,(rd_T83 l0_0 x4_1).f1]:List Int)) (inner:=[.int .i64 ((rd_T83 l0_0 x4_1).f0.f0),.int .i64 ((rd_T83 l0_0 x4_1).f0.f1),.int .i64 ((rd_T83 l0_0 x4_1).f1)]) (ok:=fun _=>True) (okp:=fun _=>True) ?hr ?hp (fun _ hk=>hk) trivial (Below.refl _ _) (Nat.le_refl _) (by simp) ?_;(case hd=>rfl);(case hg=>rfl);(case hr=>first|(go_simp;done)|(go_simp;rfl));(case hp=>exact (Reps.one (show Kd.M (Kd.int .i64) _ _ _ ((rd_T83 l0_0 x4_1).f0.f0) [.int .i64 ((rd_T83 l0_0 x4_1).f0.f0)] from rfl) (Reps.one (show Kd.M (Kd.int .i64) _ _ _ ((rd_T83 l0_0 x4_1).f0.f1) [.int .i64 ((rd_T83 l0_0 x4_1).f0.f1)] from rfl) (Reps.one (show Kd.M (Kd.int .i64) _ _ _ ((rd_T83 l0_0 x4_1).f1) [.int .i64 ((rd_T83 l0_0 x4_1).f1)] from rfl) (Reps.none _ _)))));intro v540 w20 ho21 hb hg_ hnew_;clear hg_ hnew_;(first|rw [← Ny539.out] at ho21|(simp only [Int.reduceToNat] at ho21;rw [← Ny539.out] at ho21));have n0_:=A0_ (Kd.R_below (by (with_reducible repeat (first|apply Kd.R_alloc|apply Kd.R_drewN|apply Kd.R_drew));exact (Kd.R_mono (Kd.R_far (p:=⟨gb538,3,none⟩) (Kd.R_far (p:=⟨gb538,2,none⟩) (Kd.R_far (p:=⟨gb538,1,none⟩) (Kd.R_far (p:=⟨gb538,0,none⟩) (Kd.R_types HO_3.out BK538.out (by decide)) (fun _ hk=>hk.2) (.int .i64 ((rd_T83 l0_0 x4_1).f0.f0))) (fun _ hk=>hk.2) (.int .i64 ((rd_T83 l0_0 x4_1).f0.f1))) (fun _ hk=>hk.2) (.int .i64 ((rd_T83 l0_0 x4_1).f1))) (fun _ hk=>hk.2) (.slice A537_3 ((rd_T83 l0_0 x4_1).f2).length c537_3)) (fun _ h_=>h_.1))) hb);have n1_:=A0_ (Kd.R_lower ho21 (below_size y2e_));have n2_:=A0_ (blk_below (g:=gb529) (o:=.cells #[.slice (some ad537) l0_0.length c0_0,.int .i64 a0_1,.int .i64 a0_2,.int .i64 a0_3] 28 (0,0)) (by (with_reducible repeat (first|refine blk_drewN ?_ _|refine blk_drew ?_|refine blk_alloc ?_ _));refine blk_far ?_ NB529_538.out _;(with_reducible repeat (first|refine blk_drewN ?_ _|refine blk_drew ?_|refine blk_alloc ?_ _));refine blk_far ?_ NB529_538.out _;(with_reducible repeat (first|refine blk_drewN ?_ _|refine blk_drew ?_|refine blk_alloc ?_ _));refine blk_far ?_ NB529_538.out _;(with_reducible repeat (first|refine blk_drewN ?_ _|refine blk_drew ?_|refine blk_alloc ?_ _));refine blk_far ?_ NB529_538.out _;(with_reducible repeat (first|refine blk_drewN ?_ _|refine blk_drew ?_|refine blk_alloc ?_ _));exact BK529.out) hb);have n3_:=A0_ (blk_below (g:=gb538) (o:=.cells #[.int .i64 ((rd_T83 l0_0 x4_1).f0.f0),.int .i64 ((rd_T83 l0_0 x4_1).f0.f1),.int .i64 ((rd_T83 l0_0 x4_1).f1),.slice A537_3 ((rd_T83 l0_0 x4_1).f2).length c537_3] 83 (0,0)) (by (with_reducible repeat (first|refine blk_drewN ?_ _|refine blk_drew ?_|refine blk_alloc ?_ _));refine blk_put (cs:=#[.int .i64 ((rd_T83 l0_0 x4_1).f0.f0),.int .i64 ((rd_T83 l0_0 x4_1).f0.f1),.int .i64 ((rd_T83 l0_0 x4_1).f1),.slice none 0 0]) ?_ 3 _ rfl;(with_reducible repeat (first|refine blk_drewN ?_ _|refine blk_drew ?_|refine blk_alloc ?_ _));refine blk_put (cs:=#[.int .i64 ((rd_T83 l0_0 x4_1).f0.f0),.int .i64 ((rd_T83 l0_0 x4_1).f0.f1),.int .i64 0,.slice none 0 0]) ?_ 2 _ rfl;(with_reducible repeat (first|refine blk_drewN ?_ _|refine blk_drew ?_|refine blk_alloc ?_ _));refine blk_put (cs:=#[.int .i64 ((rd_T83 l0_0 x4_1).f0.f0),.int .i64 0,.int .i64 0,.slice none 0 0]) ?_ 1 _ rfl;(with_reducible repeat (first|refine blk_drewN ?_ _|refine blk_drew ?_|refine blk_alloc ?_ _));refine blk_put (cs:=#[.int .i64 0,.int .i64 0,.int .i64 0,.slice none 0 0]) ?_ 0 _ rfl;(with_reducible repeat (first|refine blk_drewN ?_ _|refine blk_drew ?_|refine blk_alloc ?_ _));exact BK538.out) hb);have n4_:=A0_ (below_step y2e_ hb);clear HO_3;clear BK529;clear BK538;clear HB;have HO_3:=n0_;have HO541:=n1_;have BK529:=n2_;have BK538:=n3_;have HB:=n4_;clear n0_ n1_ n2_ n3_ n4_;clear hb ho21;obtain ⟨hcz22_0,hcz22_1,hcz22_2,hcz22_3,hfz22_0,hfz22_1,hfz22_2,hfz22_3⟩:=bq4_ BK538.out)|((with_reducible refine gate_builtin (b:=.append) (xs:=#[.tmp 37,.tmp 39]) rfl ?_);at_builtin;refine Kd.R_append_rows (Kd.int .i64) (w0:=w) w.heap.size rfl (.tmp 37) (.tmp 39) 63 3 (.int .i64 0) 8 rfl Tryz.underlying63 info3 rfl (by decide) (by omega) v540 y539 ((rd_T83 l0_0 x4_1).f2) _ _ _ (fun _=>True) (fun _=>False) rfl rfl ?aO ?aR (fun _ _ h=>h) (fun _ h=>h.elim) ?aF ?aB ?aS ?aL ?_;(case aR=>repeat (first|exact (Kd.C_below HR537_3.out HB.out)|(with_reducible refine Kd.C_alloc ?_ _)|(with_reducible refine Kd.C_drewN ?_ _)|(with_reducible refine Kd.C_drew ?_)));(case aB=>exact y2e_);(case aF=>exact (fun _ _=>trivial));(case aO=>exact (rd_ HO541.out));(case aS=>exact (below_size y2e_));(case aL=>have:=LMc13.out;omega);intro v543 w23 ho hb hg hat;rw [← Ny542.out] at ho;have n0_:=A0_ (Kd.R_over' (rd_ HO_3.out) (Kd.R_typed (rd_ HO541.out)) (by decide) hg);have n1_:=A0_ (blk_grown (g:=gb529) (o:=.cells #[.slice (some ad537) l0_0.length c0_0,.int .i64 a0_1,.int .i64 a0_2,.int .i64 a0_3] 28 (0,0)) (bd_ BK529.out) hg (Kd.R_ne HO541.out BK529.out (by decide)));have n2_:=A0_ (blk_grown (g:=gb538) (o:=.cells #[.int .i64 ((rd_T83 l0_0 x4_1).f0.f0),.int .i64 ((rd_T83 l0_0 x4_1).f0.f1),.int .i64 ((rd_T83 l0_0 x4_1).f1),.slice A537_3 ((rd_T83 l0_0 x4_1).f2).length c537_3] 83 (0,0)) (bd_ BK538.out) hg (Kd.R_ne HO541.out BK538.out (by decide)));have n3_:=A0_ (hb);have n4_:=A0_ (ho);clear HO_3;clear BK529;clear BK538;clear HB;clear HO541;have HO_3:=n0_;have BK529:=n1_;have BK538:=n2_;have HB:=n3_;have HO544:=n4_;clear n0_ n1_ n2_ n3_ n4_;clear ho hb hg hat;obtain ⟨Ao24,co24,eo24⟩:=Kd.R_slice HO544.out;subst eo24)|((with_reducible refine gate_callee (f:=87) rfl ?_);refine goesL_ (some 41) rfl rfl Tryz.func87 (by kernel_rfl) rfl #[.string (⟨#[98,111,100,121]⟩:ByteArray),.slice Ao24 y542.length co24] rfl y1_ ?_;(with_reducible refine (tr_row.calls k1 (⟨#[98,111,100,121]⟩:ByteArray) _ _ y542 t545 _ ?side1 ?side2 A14.out).mono ?_);(case side1=>repeat (first|exact (Kd.R_reads' HO544.out).2.2|(with_reducible refine Kd.C_alloc ?_ _)|(with_reducible refine Kd.C_drewN ?_ _)|(with_reducible refine Kd.C_drew ?_)));(case side2=>exact (Kd.R_reads' HO544.out).2.1);rintro e w25 ⟨rfl,hb⟩;refine ⟨_,rfl,?_⟩;have n0_:=A0_ (Kd.R_below (rd_ HO_3.out) hb);have n1_:=A0_ (Kd.R_below (rd_ HO544.out) hb);have n2_:=A0_ (blk_below (g:=gb529) (o:=.cells #[.slice (some ad537) l0_0.length c0_0,.int .i64 a0_1,.int .i64 a0_2,.int .i64 a0_3] 28 (0,0)) (bd_ BK529.out) hb);have n3_:=A0_ (blk_below (g:=gb538) (o:=.cells #[.int .i64 ((rd_T83 l0_0 x4_1).f0.f0),.int .i64 ((rd_T83 l0_0 x4_1).f0.f1),.int .i64 ((rd_T83 l0_0 x4_1).f1),.slice A537_3 ((rd_T83 l0_0 x4_1).f2).length c537_3] 83 (0,0)) (bd_ BK538.out) hb);have n4_:=A0_ (below_step y2e_ hb);clear HO_3;clear HO544;clear BK529;clear BK538;clear HB;have HO_3:=n0_;have HO544:=n1_;have BK529:=n2_;have BK538:=n3_;have HB:=n4_;clear n0_ n1_ n2_ n3_ n4_;(try clear hb);(try clear hb2);(try clear hk);(try clear hi))|((with_reducible refine gate_builtin (b:=.append) (xs:=#[.tmp 28,.tmp 42]) rfl ?_);at_builtin;refine Kd.R_append Kd.string (w0:=w) w.heap.size rfl (.tmp 28) (.tmp 42) 112 9 (.string ⟨#[]⟩) 16 rfl Tryz.underlying112 info9 rfl (by decide) (by omega) u3 x3_1 t545 [.string t545] (fun _=>True) (fun _=>False) rfl rfl ?aP (fun _ hk=>hk.elim) ?aF ?aO ?aB ?aS ?aL ?_;(case aP=>exact rfl);(case aB=>exact y2e_);(case aF=>exact (fun _ _=>trivial));(case aO=>exact (rd_ HO_3.out));(case aS=>exact (below_size y2e_));(case aL=>have:=LMc15.out;omega);intro v547 w26 ho hb hg hat;rw [← Ny546.out] at ho;have n0_:=A0_ (blk_grown (g:=gb529) (o:=.cells #[.slice (some ad537) l0_0.length c0_0,.int .i64 a0_1,.int .i64 a0_2,.int .i64 a0_3] 28 (0,0)) (bd_ BK529.out) hg (Kd.R_ne HO_3.out BK529.out (by decide)));have n1_:=A0_ (blk_grown (g:=gb538) (o:=.cells #[.int .i64 ((rd_T83 l0_0 x4_1).f0.f0),.int .i64 ((rd_T83 l0_0 x4_1).f0.f1),.int .i64 ((rd_T83 l0_0 x4_1).f1),.slice A537_3 ((rd_T83 l0_0 x4_1).f2).length c537_3] 83 (0,0)) (bd_ BK538.out) hg (Kd.R_ne HO_3.out BK538.out (by decide)));have n2_:=A0_ (Kd.R_over' (rd_ HO544.out) (Kd.R_typed (rd_ HO_3.out)) (by decide) hg);have n3_:=A0_ (hb);have n4_:=A0_ (ho);clear BK529;clear BK538;clear HO544;clear HB;clear HO_3;have BK529:=n0_;have BK538:=n1_;have HO544:=n2_;have HB:=n3_;have HO548:=n4_;clear n0_ n1_ n2_ n3_ n4_;clear ho hb hg hat))
       go_roundg k1
       case measure=>have:=HK1.out;omega
       case rel=>exact ⟨(y546),(wrap64 (x4_1+1)),y5_,H',⟨by have:=HK1.out;omega⟩,⟨by (with_reducible repeat (first|apply Kd.R_alloc|apply Kd.R_drewN|apply Kd.R_drew));exact HO548.out⟩,⟨by (with_reducible repeat (first|refine blk_drewN ?_ _|refine blk_drew ?_|refine blk_alloc ?_ _));exact BK529.out⟩,⟨y2e_⟩⟩
      ·rw [if_neg c15] at H;exact absurd H (by simp)
     ·rw [if_neg c13] at H;exact absurd H (by simp)
    ·rw [if_neg c12] at H;exact absurd H (by simp)
   ·rw [if_neg c11] at H;have c11b0:decide (x4_1<(l0_0.length:Int))=false:=decide_eq_false c11;clear c11
    obtain ⟨y549,hy549⟩:∃ y_:List Int,y_=(([a0_1,a0_2,a0_3]:List Int)):=⟨_,rfl⟩
    replace H:((tr_row.f k1 (⟨#[110,111,100,101]⟩:ByteArray) y549).bind fun t552=>(if x3_1.length<8796093022208 then (tr_Print.l1 k1 (x3_1 ++ [t552]) (⟨#[]⟩:ByteArray) 0 0) else (none)))=some r:=by first|(rw [hy549];with_reducible exact H)|(have H2_:=(Option.bind_some _ _).symm.trans H;rw [hy549];with_reducible exact H2_)|(have H2_:=(Option.bind_some _ _).symm.trans H;with_reducible exact H2_)|with_reducible exact H|(rw [hy549];exact H)|exact H
    have Ny549:=A0_ hy549;clear hy549;replace H:=Option.bind_eq_some_iff.mp H;obtain ⟨t552,A270,H⟩:=H
    replace H:(if x3_1.length<8796093022208 then (tr_Print.l1 k1 (x3_1 ++ [t552]) (⟨#[]⟩:ByteArray) 0 0) else (none))=some r:=H
    have A27:=A0_ A270;clear A270
    by_cases c28:x3_1.length<8796093022208
    ·rw [if_pos c28] at H;have LMc28:=A0_ c28;clear c28
     obtain ⟨y553,hy553⟩:∃ y_:List ByteArray,y_=(x3_1 ++ [t552]):=⟨_,rfl⟩
     replace H:(tr_Print.l1 k1 y553 (⟨#[]⟩:ByteArray) 0 0)=some r:=by first|(rw [hy553];with_reducible exact H)|(have H2_:=(Option.bind_some _ _).symm.trans H;rw [hy553];with_reducible exact H2_)|(have H2_:=(Option.bind_some _ _).symm.trans H;with_reducible exact H2_)|with_reducible exact H|(rw [hy553];exact H)|exact H
     have Ny553:=A0_ hy553;clear hy553
     have H':=A0_ H
     clear H;obtain ⟨hcz29_0,hcz29_1,hcz29_2,hcz29_3,hfz29_0,hfz29_1,hfz29_2,hfz29_3⟩:=bq4_ BK529.out
     go_wp2_with (first|((with_reducible refine gate_dst (N:=56) rfl ?_);refine Kd.R_lit (Kd.int .i64) _ 3 ?hg (N:=56) ?hd (xs:=([a0_1,a0_2,a0_3]:List Int)) (inner:=[.int .i64 a0_1,.int .i64 a0_2,.int .i64 a0_3]) (ok:=fun _=>True) (okp:=fun _=>True) ?hr ?hp (fun _ hk=>hk) trivial (Below.refl _ _) (Nat.le_refl _) (by simp) ?_;(case hd=>rfl);(case hg=>rfl);(case hr=>first|(go_simp;done)|(go_simp;rfl));(case hp=>exact (Reps.one (show Kd.M (Kd.int .i64) _ _ _ a0_1 [.int .i64 a0_1] from rfl) (Reps.one (show Kd.M (Kd.int .i64) _ _ _ a0_2 [.int .i64 a0_2] from rfl) (Reps.one (show Kd.M (Kd.int .i64) _ _ _ a0_3 [.int .i64 a0_3] from rfl) (Reps.none _ _)))));intro v550 w30 ho31 hb hg_ hnew_;clear hg_ hnew_;(first|rw [← Ny549.out] at ho31|(simp only [Int.reduceToNat] at ho31;rw [← Ny549.out] at ho31));have n0_:=A0_ (Kd.R_below (rd_ HO_3.out) hb);have n1_:=A0_ (Kd.R_lower ho31 (below_size ya_));have n2_:=A0_ (blk_below (g:=gb529) (o:=.cells #[.slice A0_0 l0_0.length c0_0,.int .i64 a0_1,.int .i64 a0_2,.int .i64 a0_3] 28 (0,0)) (bd_ BK529.out) hb);have n3_:=A0_ (below_step ya_ hb);clear HO_3;clear BK529;clear HB;have HO_3:=n0_;have HO551:=n1_;have BK529:=n2_;have HB:=n3_;clear n0_ n1_ n2_ n3_;clear hb ho31;obtain ⟨Ao32,co32,eo32⟩:=Kd.R_slice HO551.out;subst eo32)|((with_reducible refine gate_callee (f:=87) rfl ?_);refine goesL_ (some 57) rfl rfl Tryz.func87 (by kernel_rfl) rfl #[.string (⟨#[110,111,100,101]⟩:ByteArray),.slice Ao32 y549.length co32] rfl y1_ ?_;(with_reducible refine (tr_row.calls k1 (⟨#[110,111,100,101]⟩:ByteArray) _ _ y549 t552 _ ?side1 ?side2 A27.out).mono ?_);(case side1=>repeat (first|exact (Kd.R_reads' HO551.out).2.2|(with_reducible refine Kd.C_alloc ?_ _)|(with_reducible refine Kd.C_drewN ?_ _)|(with_reducible refine Kd.C_drew ?_)));(case side2=>exact (Kd.R_reads' HO551.out).2.1);rintro e w33 ⟨rfl,hb⟩;refine ⟨_,rfl,?_⟩;have n0_:=A0_ (Kd.R_below (rd_ HO_3.out) hb);have n1_:=A0_ (Kd.R_below (rd_ HO551.out) hb);have n2_:=A0_ (blk_below (g:=gb529) (o:=.cells #[.slice A0_0 l0_0.length c0_0,.int .i64 a0_1,.int .i64 a0_2,.int .i64 a0_3] 28 (0,0)) (bd_ BK529.out) hb);have n3_:=A0_ (below_step ya_ hb);clear HO_3;clear HO551;clear BK529;clear HB;have HO_3:=n0_;have HO551:=n1_;have BK529:=n2_;have HB:=n3_;clear n0_ n1_ n2_ n3_;(try clear hb);(try clear hb2);(try clear hk);(try clear hi))|((with_reducible refine gate_builtin (b:=.append) (xs:=#[.tmp 44,.tmp 58]) rfl ?_);at_builtin;refine Kd.R_append Kd.string (w0:=w) w.heap.size rfl (.tmp 44) (.tmp 58) 112 9 (.string ⟨#[]⟩) 16 rfl Tryz.underlying112 info9 rfl (by decide) (by omega) u3 x3_1 t552 [.string t552] (fun _=>True) (fun _=>False) rfl rfl ?aP (fun _ hk=>hk.elim) ?aF ?aO ?aB ?aS ?aL ?_;(case aP=>exact rfl);(case aB=>exact ya_);(case aF=>exact (fun _ _=>trivial));(case aO=>exact (rd_ HO_3.out));(case aS=>exact (below_size ya_));(case aL=>have:=LMc28.out;omega);intro v554 w34 ho hb hg hat;rw [← Ny553.out] at ho;have n0_:=A0_ (blk_grown (g:=gb529) (o:=.cells #[.slice A0_0 l0_0.length c0_0,.int .i64 a0_1,.int .i64 a0_2,.int .i64 a0_3] 28 (0,0)) (bd_ BK529.out) hg (Kd.R_ne HO_3.out BK529.out (by decide)));have n1_:=A0_ (Kd.R_over' (rd_ HO551.out) (Kd.R_typed (rd_ HO_3.out)) (by decide) hg);have n2_:=A0_ (hb);have n3_:=A0_ (ho);clear BK529;clear HO551;clear HB;clear HO_3;have BK529:=n0_;have HO551:=n1_;have HB:=n2_;have HO555:=n3_;clear n0_ n1_ n2_ n3_;clear ho hb hg hat))
     go_loopg [6,7,8] k1 (fun kq v6 v7 v8 w'=>∃ (x6_2:ByteArray) (x7_2:Int) (x8_2:Int),v6=.string x6_2∧v7=.int .i64 x7_2∧v8=.int .i64 x8_2∧Aside0 (tr_Print.l1 kq y553 x6_2 x7_2 x8_2=some r)∧Aside0 (kq≤k1)∧Aside0 (Kd.R Kd.string 9 w' w.heap.size (fun _=>True) v554 y553)∧Aside0 (w'.heap[gb529]?=some (.cells #[(.slice A0_0 l0_0.length c0_0),.int .i64 a0_1,.int .i64 a0_2,.int .i64 a0_3] 28 (0,0)))∧Aside0 (Below w.heap.size w w'))
     case atStart=>exact ⟨((⟨#[]⟩:ByteArray)),(0),(0),y5_,y5_,y5_,H',⟨Nat.le_refl _⟩,⟨by (with_reducible repeat (first|apply Kd.R_alloc|apply Kd.R_drewN|apply Kd.R_drew));exact HO555.out⟩,⟨by (with_reducible repeat (first|refine blk_drewN ?_ _|refine blk_drew ?_|refine blk_alloc ?_ _));exact BK529.out⟩,⟨ya_⟩⟩
     case round=>
      clear H'
      (try clear c1);(try clear c2);(try clear p2);(try clear c4);(try clear c5);(try clear p5);(try clear q5);(try clear hx5);(try clear p6);(try clear c8);(try clear c11);(try clear c11b0);(try clear c12);(try clear c12b0);(try clear c13);(try clear c15);(try clear c18);(try clear c28);(try clear hcz16_0);(try clear hcz16_1);(try clear hcz16_2);(try clear hcz16_3);(try clear hcz19_0);(try clear hcz19_1);(try clear hcz19_2);(try clear hcz19_3);(try clear hcz22_0);(try clear hcz22_1);(try clear hcz22_2);(try clear hcz22_3);(try clear hcz29_0);(try clear hcz29_1);(try clear hcz29_2);(try clear hcz29_3);(try clear hcz4_0);(try clear hcz4_1);(try clear hcz4_2);(try clear hcz4_3);(try clear hfz16_0);(try clear hfz16_1);(try clear hfz16_2);(try clear hfz16_3);(try clear hfz19_0);(try clear hfz19_1);(try clear hfz19_2);(try clear hfz19_3);(try clear hfz22_0);(try clear hfz22_1);(try clear hfz22_2);(try clear hfz22_3);(try clear hfz29_0);(try clear hfz29_1);(try clear hfz29_2);(try clear hfz29_3);(try clear hfz4_0);(try clear hfz4_1);(try clear hfz4_2);(try clear hfz4_3);(try clear hx537_0);(try clear hx537_1);(try clear hx537_2);(try clear hx537_3);(try clear p2);(try clear p537);(try clear q537)
      obtain ⟨x6_2,x7_2,x8_2,rfl,rfl,rfl,HA,HK2,HO_3,BK529,HB⟩:=hrel
      cases gk with
      |zero=>exact absurd HA.out (by simp [tr_Print.l1])
      |succ k2=>
       have H:=HA.out
       clear HA
       simp only [tr_Print.l1] at H
       by_cases c35:x8_2<(y553.length:Int)
       ·rw [if_pos c35] at H;have c35b0:decide (x8_2<(y553.length:Int))=true:=decide_eq_true c35;clear c35
        have H':=A0_ H
        clear H
        obtain ⟨Ao36,co36,eo36⟩:=Kd.R_slice HO_3.out
        subst eo36;go_wp2
        go_loopg [7,9] k2 (fun kq v7 v9 w'=>∃ (x7_3:Int) (x9_3:Int),v7=.int .i64 x7_3∧v9=.int .i64 x9_3∧Aside0 (tr_Print.l2 kq y553 x6_2 x7_3 x8_2 x9_3=some r)∧Aside0 (kq≤k2)∧Aside0 (Kd.R Kd.string 9 w' w.heap.size (fun _=>True) (.slice Ao36 y553.length co36) y553)∧Aside0 (w'.heap[gb529]?=some (.cells #[(.slice A0_0 l0_0.length c0_0),.int .i64 a0_1,.int .i64 a0_2,.int .i64 a0_3] 28 (0,0)))∧Aside0 (Below w.heap.size w w'))
        case atStart=>exact ⟨(x7_2),(0),y5_,y5_,H',⟨Nat.le_refl _⟩,⟨by (with_reducible repeat (first|apply Kd.R_alloc|apply Kd.R_drewN|apply Kd.R_drew));exact HO_3.out⟩,⟨by (with_reducible repeat (first|refine blk_drewN ?_ _|refine blk_drew ?_|refine blk_alloc ?_ _));exact BK529.out⟩,⟨ya_⟩⟩
        case round=>
         clear H'
         (try clear c1);(try clear c2);(try clear p2);(try clear c3);(try clear c4);(try clear c5);(try clear p5);(try clear q5);(try clear hx5);(try clear p6);(try clear c8);(try clear c11);(try clear c11b0);(try clear c12);(try clear c12b0);(try clear c13);(try clear c15);(try clear c18);(try clear c28);(try clear c35);(try clear c35b0);(try clear hcz16_0);(try clear hcz16_1);(try clear hcz16_2);(try clear hcz16_3);(try clear hcz19_0);(try clear hcz19_1);(try clear hcz19_2);(try clear hcz19_3);(try clear hcz22_0);(try clear hcz22_1);(try clear hcz22_2);(try clear hcz22_3);(try clear hcz29_0);(try clear hcz29_1);(try clear hcz29_2);(try clear hcz29_3);(try clear hcz4_0);(try clear hcz4_1);(try clear hcz4_2);(try clear hcz4_3);(try clear hfz16_0);(try clear hfz16_1);(try clear hfz16_2);(try clear hfz16_3);(try clear hfz19_0);(try clear hfz19_1);(try clear hfz19_2);(try clear hfz19_3);(try clear hfz22_0);(try clear hfz22_1);(try clear hfz22_2);(try clear hfz22_3);(try clear hfz29_0);(try clear hfz29_1);(try clear hfz29_2);(try clear hfz29_3);(try clear hfz4_0);(try clear hfz4_1);(try clear hfz4_2);(try clear hfz4_3);(try clear hx537_0);(try clear hx537_1);(try clear hx537_2);(try clear hx537_3);(try clear p2);(try clear p5);(try clear p537);(try clear p6);(try clear q5);(try clear q537)
         obtain ⟨x7_3,x9_3,rfl,rfl,HA,HK3,HO_3,BK529,HB⟩:=hrel
         cases gk with
         |zero=>exact absurd HA.out (by simp [tr_Print.l2])
         |succ k3=>
          have H:=HA.out
          clear HA
          simp only [tr_Print.l2] at H
          by_cases c37:0≤x8_2
          ·rw [if_pos c37] at H;have c37b0:decide (0≤x8_2)=true:=decide_eq_true c37;clear c37
           by_cases c38:x8_2<(y553.length:Int)
           ·rw [if_pos c38] at H;have c38b0:decide (x8_2<(y553.length:Int))=true:=decide_eq_true c38;clear c38
            by_cases c39:x9_3<((rdOf ByteArray.empty y553 x8_2).size:Int)
            ·rw [if_pos c39] at H;have c39b0:decide (x9_3<((rdOf ByteArray.empty y553 x8_2).size:Int))=true:=decide_eq_true c39;clear c39
             by_cases c40:0≤x9_3
             ·rw [if_pos c40] at H;have c40b0:decide (0≤x9_3)=true:=decide_eq_true c40;clear c40
              have H':=A0_ H
              clear H
              have p559:0≤(x8_2:Int):=of_decide_eq_true y6_
              have q559:x8_2<(y553.length:Int):=of_decide_eq_true y6_
              obtain ⟨ad559,e559,hx559_0⟩:=Kd.at_string (Kd.R_reads' HO_3.out).2.2 x8_2 p559 q559
              cases e559
              replace p559:=eq_true p559
              replace q559:=eq_true q559
              have p560:0≤(x8_2:Int):=of_decide_eq_true y6_
              have q560:x8_2<(y553.length:Int):=of_decide_eq_true y6_
              obtain ⟨ad560,e560,hx560_0⟩:=Kd.at_string (Kd.R_reads' HO_3.out).2.2 x8_2 p560 q560
              obtain rfl:ad559=ad560:=(by injection e560)
              replace p560:=eq_true p560
              replace q560:=eq_true q560
              have p41:0≤(x9_3:Int):=of_decide_eq_true y6_
              have q41:x9_3<((rdOf ByteArray.empty y553 x8_2).size:Int):=of_decide_eq_true y6_
              have hx41:=bt_at (rdOf ByteArray.empty y553 x8_2) x9_3
              replace p41:=eq_true p41
              replace q41:=eq_true q41
              go_wp2
              go_roundg k3
              case measure=>have:=HK1.out;have:=HK2.out;have:=HK3.out;omega
              case rel=>exact ⟨(wrap64 (x7_3+(wrap64 ((wrap64 ((wrap64 (bt (rdOf ByteArray.empty y553 x8_2) x9_3))*(wrap64 (x9_3+1))))*(wrap64 (x8_2+1)))))),(wrap64 (x9_3+1)),y5_,y5_,H',⟨by have:=HK1.out;have:=HK2.out;have:=HK3.out;omega⟩,⟨by (with_reducible repeat (first|apply Kd.R_alloc|apply Kd.R_drewN|apply Kd.R_drew));exact HO_3.out⟩,⟨by (with_reducible repeat (first|refine blk_drewN ?_ _|refine blk_drew ?_|refine blk_alloc ?_ _));exact BK529.out⟩,⟨ya_⟩⟩
             ·rw [if_neg c40] at H;exact absurd H (by simp)
            ·rw [if_neg c39] at H;have c39b0:decide (x9_3<((rdOf ByteArray.empty y553 x8_2).size:Int))=false:=decide_eq_false c39;clear c39
             by_cases c42:x6_2.size+(rdOf ByteArray.empty y553 x8_2).size≤9223372036854775807
             ·rw [if_pos c42] at H;have c42b0:=eq_true c42;have c42b1:decide (x6_2.size+(rdOf ByteArray.empty y553 x8_2).size≤9223372036854775807)=true:=decide_eq_true c42
              try have c42b2:(9223372036854775807<x6_2.size+(rdOf ByteArray.empty y553 x8_2).size)=False:=eq_false (Nat.not_lt.2 c42)
              by_cases c43:(x6_2 ++ (rdOf ByteArray.empty y553 x8_2)).size+1≤9223372036854775807
              ·rw [if_pos c43] at H
               have c43s:x6_2.size+(rdOf ByteArray.empty y553 x8_2).size+1≤9223372036854775807:=by
                have h_:=c43
                simp only [ByteArray.size_append] at h_
                exact h_
               have c43b0:=eq_true c43;have c43b1:decide ((x6_2 ++ (rdOf ByteArray.empty y553 x8_2)).size+1≤9223372036854775807)=true:=decide_eq_true c43
               try have c43b2:(9223372036854775807<(x6_2 ++ (rdOf ByteArray.empty y553 x8_2)).size+1)=False:=eq_false (Nat.not_lt.2 c43)
               have H':=A0_ H
               clear H
               have p559:0≤(x8_2:Int):=of_decide_eq_true y6_
               have q559:x8_2<(y553.length:Int):=of_decide_eq_true y6_
               obtain ⟨ad559,e559,hx559_0⟩:=Kd.at_string (Kd.R_reads' HO_3.out).2.2 x8_2 p559 q559
               cases e559
               replace p559:=eq_true p559
               replace q559:=eq_true q559
               have p561:0≤(x8_2:Int):=of_decide_eq_true y6_
               have q561:x8_2<(y553.length:Int):=of_decide_eq_true y6_
               obtain ⟨ad561,e561,hx561_0⟩:=Kd.at_string (Kd.R_reads' HO_3.out).2.2 x8_2 p561 q561
               obtain rfl:ad559=ad561:=(by injection e561)
               replace p561:=eq_true p561
               replace q561:=eq_true q561
               go_wp2
               go_roundg k3
               case measure=>have:=HK1.out;have:=HK2.out;have:=HK3.out;omega
               case rel=>exact ⟨((x6_2 ++ (rdOf ByteArray.empty y553 x8_2)) ++ (⟨#[10]⟩:ByteArray)),(x7_3),(wrap64 (x8_2+1)),y5_,y5_,y5_,H',⟨by have:=HK1.out;have:=HK2.out;have:=HK3.out;omega⟩,⟨by (with_reducible repeat (first|apply Kd.R_alloc|apply Kd.R_drewN|apply Kd.R_drew));exact HO_3.out⟩,⟨by (with_reducible repeat (first|refine blk_drewN ?_ _|refine blk_drew ?_|refine blk_alloc ?_ _));exact BK529.out⟩,⟨ya_⟩⟩
              ·rw [if_neg c43] at H;exact absurd H (by simp)
             ·rw [if_neg c42] at H;exact absurd H (by simp)
           ·rw [if_neg c38] at H;exact absurd H (by simp)
          ·rw [if_neg c37] at H;exact absurd H (by simp)
       ·rw [if_neg c35] at H;have c35b0:decide (x8_2<(y553.length:Int))=false:=decide_eq_false c35;clear c35
        by_cases c44:x6_2.size+4≤9223372036854775807
        ·rw [if_pos c44] at H;have c44b0:=eq_true c44;have c44b1:decide (x6_2.size+4≤9223372036854775807)=true:=decide_eq_true c44
         try have c44b2:(9223372036854775807<x6_2.size+4)=False:=eq_false (Nat.not_lt.2 c44)
         replace H:=Option.bind_eq_some_iff.mp H;obtain ⟨t556,A450,H⟩:=H
         replace H:(if (x6_2 ++ (⟨#[101,110,100,32]⟩:ByteArray)).size+t556.size≤9223372036854775807 then ((tr_Decimal.f k2 (Int.tmod (wrap64 (Int.tdiv (Int.tmod x7_2 137) 10)) 10)).bind fun t557=>(if ((x6_2 ++ (⟨#[101,110,100,32]⟩:ByteArray)) ++ t556).size+t557.size≤9223372036854775807 then ((tr_Decimal.f k2 (Int.tmod (Int.tmod x7_2 137) 10)).bind fun t558=>(if (((x6_2 ++ (⟨#[101,110,100,32]⟩:ByteArray)) ++ t556) ++ t557).size+t558.size≤9223372036854775807 then (if ((((x6_2 ++ (⟨#[101,110,100,32]⟩:ByteArray)) ++ t556) ++ t557) ++ t558).size+1≤9223372036854775807 then (some (((((x6_2 ++ (⟨#[101,110,100,32]⟩:ByteArray)) ++ t556) ++ t557) ++ t558) ++ (⟨#[10]⟩:ByteArray))) else (none)) else (none))) else (none))) else (none))=some r:=H
         have A45:=A0_ A450;clear A450
         by_cases c46:(x6_2 ++ (⟨#[101,110,100,32]⟩:ByteArray)).size+t556.size≤9223372036854775807
         ·rw [if_pos c46] at H
          have c46s:x6_2.size+4+t556.size≤9223372036854775807:=by
           have h_:=c46
           simp only [ByteArray.size_append] at h_
           exact h_
          have c46b0:=eq_true c46;have c46b1:decide ((x6_2 ++ (⟨#[101,110,100,32]⟩:ByteArray)).size+t556.size≤9223372036854775807)=true:=decide_eq_true c46
          try have c46b2:(9223372036854775807<(x6_2 ++ (⟨#[101,110,100,32]⟩:ByteArray)).size+t556.size)=False:=eq_false (Nat.not_lt.2 c46)
          replace H:=Option.bind_eq_some_iff.mp H;obtain ⟨t557,A470,H⟩:=H
          replace H:(if ((x6_2 ++ (⟨#[101,110,100,32]⟩:ByteArray)) ++ t556).size+t557.size≤9223372036854775807 then ((tr_Decimal.f k2 (Int.tmod (Int.tmod x7_2 137) 10)).bind fun t558=>(if (((x6_2 ++ (⟨#[101,110,100,32]⟩:ByteArray)) ++ t556) ++ t557).size+t558.size≤9223372036854775807 then (if ((((x6_2 ++ (⟨#[101,110,100,32]⟩:ByteArray)) ++ t556) ++ t557) ++ t558).size+1≤9223372036854775807 then (some (((((x6_2 ++ (⟨#[101,110,100,32]⟩:ByteArray)) ++ t556) ++ t557) ++ t558) ++ (⟨#[10]⟩:ByteArray))) else (none)) else (none))) else (none))=some r:=H
          have A47:=A0_ A470;clear A470
          by_cases c48:((x6_2 ++ (⟨#[101,110,100,32]⟩:ByteArray)) ++ t556).size+t557.size≤9223372036854775807
          ·rw [if_pos c48] at H
           have c48s:x6_2.size+4+t556.size+t557.size≤9223372036854775807:=by
            have h_:=c48
            simp only [ByteArray.size_append] at h_
            exact h_
           have c48b0:=eq_true c48;have c48b1:decide (((x6_2 ++ (⟨#[101,110,100,32]⟩:ByteArray)) ++ t556).size+t557.size≤9223372036854775807)=true:=decide_eq_true c48
           try have c48b2:(9223372036854775807<((x6_2 ++ (⟨#[101,110,100,32]⟩:ByteArray)) ++ t556).size+t557.size)=False:=eq_false (Nat.not_lt.2 c48)
           replace H:=Option.bind_eq_some_iff.mp H;obtain ⟨t558,A490,H⟩:=H
           replace H:(if (((x6_2 ++ (⟨#[101,110,100,32]⟩:ByteArray)) ++ t556) ++ t557).size+t558.size≤9223372036854775807 then (if ((((x6_2 ++ (⟨#[101,110,100,32]⟩:ByteArray)) ++ t556) ++ t557) ++ t558).size+1≤9223372036854775807 then (some (((((x6_2 ++ (⟨#[101,110,100,32]⟩:ByteArray)) ++ t556) ++ t557) ++ t558) ++ (⟨#[10]⟩:ByteArray))) else (none)) else (none))=some r:=H
           have A49:=A0_ A490;clear A490
           by_cases c50:(((x6_2 ++ (⟨#[101,110,100,32]⟩:ByteArray)) ++ t556) ++ t557).size+t558.size≤9223372036854775807
           ·rw [if_pos c50] at H
            have c50s:x6_2.size+4+t556.size+t557.size+t558.size≤9223372036854775807:=by
             have h_:=c50
             simp only [ByteArray.size_append] at h_
             exact h_
            have c50b0:=eq_true c50;have c50b1:decide ((((x6_2 ++ (⟨#[101,110,100,32]⟩:ByteArray)) ++ t556) ++ t557).size+t558.size≤9223372036854775807)=true:=decide_eq_true c50
            try have c50b2:(9223372036854775807<(((x6_2 ++ (⟨#[101,110,100,32]⟩:ByteArray)) ++ t556) ++ t557).size+t558.size)=False:=eq_false (Nat.not_lt.2 c50)
            by_cases c51:((((x6_2 ++ (⟨#[101,110,100,32]⟩:ByteArray)) ++ t556) ++ t557) ++ t558).size+1≤9223372036854775807
            ·rw [if_pos c51] at H
             have c51s:x6_2.size+4+t556.size+t557.size+t558.size+1≤9223372036854775807:=by
              have h_:=c51
              simp only [ByteArray.size_append] at h_
              exact h_
             have c51b0:=eq_true c51;have c51b1:decide (((((x6_2 ++ (⟨#[101,110,100,32]⟩:ByteArray)) ++ t556) ++ t557) ++ t558).size+1≤9223372036854775807)=true:=decide_eq_true c51
             try have c51b2:(9223372036854775807<((((x6_2 ++ (⟨#[101,110,100,32]⟩:ByteArray)) ++ t556) ++ t557) ++ t558).size+1)=False:=eq_false (Nat.not_lt.2 c51)
             obtain rfl:=Option.some.inj H
             obtain ⟨Ao52,co52,eo52⟩:=Kd.R_slice HO_3.out
             subst eo52
             go_wp2_with (first|((with_reducible refine gate_callee (f:=88) rfl ?_);refine goesL_ (some 103) rfl rfl Tryz.func88 (by kernel_rfl) rfl #[.int .i64 (wrap64 (Int.tdiv (Int.tmod x7_2 137) 100))] rfl y1_ ?_;(with_reducible refine (tr_Decimal.calls k2 (wrap64 (Int.tdiv (Int.tmod x7_2 137) 100)) t556 _ A45.out).mono ?_);rintro e w53 ⟨rfl,hb⟩;refine ⟨_,rfl,?_⟩;have n0_:=A0_ (Kd.R_below (rd_ HO_3.out) hb);have n1_:=A0_ (blk_below (g:=gb529) (o:=.cells #[.slice A0_0 l0_0.length c0_0,.int .i64 a0_1,.int .i64 a0_2,.int .i64 a0_3] 28 (0,0)) (bd_ BK529.out) hb);have n2_:=A0_ (below_step ya_ hb);clear HO_3;clear BK529;clear HB;have HO_3:=n0_;have BK529:=n1_;have HB:=n2_;clear n0_ n1_ n2_;(try clear hb);(try clear hb2);(try clear hk);(try clear hi))|((with_reducible refine gate_callee (f:=88) rfl ?_);refine goesL_ (some 108) rfl rfl Tryz.func88 (by kernel_rfl) rfl #[.int .i64 (Int.tmod (wrap64 (Int.tdiv (Int.tmod x7_2 137) 10)) 10)] rfl y1_ ?_;(with_reducible refine (tr_Decimal.calls k2 (Int.tmod (wrap64 (Int.tdiv (Int.tmod x7_2 137) 10)) 10) t557 _ A47.out).mono ?_);rintro e w54 ⟨rfl,hb⟩;refine ⟨_,rfl,?_⟩;have n0_:=A0_ (Kd.R_below (rd_ HO_3.out) hb);have n1_:=A0_ (blk_below (g:=gb529) (o:=.cells #[.slice A0_0 l0_0.length c0_0,.int .i64 a0_1,.int .i64 a0_2,.int .i64 a0_3] 28 (0,0)) (bd_ BK529.out) hb);have n2_:=A0_ (below_step ya_ hb);clear HO_3;clear BK529;clear HB;have HO_3:=n0_;have BK529:=n1_;have HB:=n2_;clear n0_ n1_ n2_;(try clear hb);(try clear hb2);(try clear hk);(try clear hi))|((with_reducible refine gate_callee (f:=88) rfl ?_);refine goesL_ (some 112) rfl rfl Tryz.func88 (by kernel_rfl) rfl #[.int .i64 (Int.tmod (Int.tmod x7_2 137) 10)] rfl y1_ ?_;(with_reducible refine (tr_Decimal.calls k2 (Int.tmod (Int.tmod x7_2 137) 10) t558 _ A49.out).mono ?_);rintro e w55 ⟨rfl,hb⟩;refine ⟨_,rfl,?_⟩;have n0_:=A0_ (Kd.R_below (rd_ HO_3.out) hb);have n1_:=A0_ (blk_below (g:=gb529) (o:=.cells #[.slice A0_0 l0_0.length c0_0,.int .i64 a0_1,.int .i64 a0_2,.int .i64 a0_3] 28 (0,0)) (bd_ BK529.out) hb);have n2_:=A0_ (below_step ya_ hb);clear HO_3;clear BK529;clear HB;have HO_3:=n0_;have BK529:=n1_;have HB:=n2_;clear n0_ n1_ n2_;(try clear hb);(try clear hb2);(try clear hk);(try clear hi)))
             go_ret
             exact ⟨y3_,ya_⟩
            ·rw [if_neg c51] at H;exact absurd H (by simp)
           ·rw [if_neg c50] at H;exact absurd H (by simp)
          ·rw [if_neg c48] at H;exact absurd H (by simp)
         ·rw [if_neg c46] at H;exact absurd H (by simp)
        ·rw [if_neg c44] at H;exact absurd H (by simp)
    ·rw [if_neg c28] at H;exact absurd H (by simp)
def sky_round.f (a0:Int):Option (Int):=(sky_around.f a0).bind fun t580=>(some (mn t580 (wrap64 (21600 - t580))))
set_option maxHeartbeats 8000000 in
set_option maxRecDepth 100000 in
theorem sky_round.calls (a0:Int) (r:Int) (w:World) (h:sky_round.f a0=some r):
  Calls Tryz.prog 113 #[.int .i64 a0] w fun e w'=>e=.returned (.int .i64 r)∧Below w.heap.size w w':=by
 have HB:=A0_ (Below.refl w.heap.size w)
 have H:((sky_around.f a0).bind fun t580=>(some (mn t580 (wrap64 (21600 - t580)))))=some r:=h
 clear h;replace H:=Option.bind_eq_some_iff.mp H;obtain ⟨t580,A20,H⟩:=H
 replace H:(some (mn t580 (wrap64 (21600 - t580))))=some r:=H
 have A2:=A0_ A20;clear A20
 obtain ⟨ji3,hji3⟩:∃ j_:Int,(mn t580 (wrap64 (21600 - t580)))=j_:=⟨_,rfl⟩
 replace H:(some ji3)=some r:=by first|(rw [hji3] at H;exact H)|(simp only [hji3] at H ⊢;exact H)
 (try rw [hji3] at A2)
 have hji3_:(if (wrap64 (21600 - t580))<t580 then (wrap64 (21600 - t580)) else t580)=ji3:=hji3
 obtain rfl:=Option.some.inj H
 go_enter Tryz.func113,Tryz.ntmps113
 go_wp2_with (first|((with_reducible refine gate_callee (f:=63) rfl ?_);refine goesL_ (some 5) rfl rfl Tryz.func63 (by kernel_rfl) rfl #[.int .i64 a0] rfl y1_ ?_;(with_reducible refine (sky_around.calls a0 t580 _ A2.out).mono ?_);rintro e w' ⟨rfl,⟨nd,rfl⟩⟩;refine ⟨_,rfl,?_⟩))
 go_ret
 exact ⟨by first|rfl|(simp [errW_none,errW_some] <;> rfl)|(simp only [← hji3];first|rfl|(simp [errW_none,errW_some] <;> rfl))|(simp [*,errW_none,errW_some] <;> rfl),y0_⟩
def sky_gcd.l0:Nat→Int→Int→Option (Int)
 |0,_,_=>none
 |k+1,x0,x1=>if x1 > 0 then (if x1=0 then (none) else (sky_gcd.l0 k x1 (Int.tmod x0 x1))) else (some x0)
def sky_gcd.f (k:Nat) (a0:Int) (a1:Int):Option (Int):=sky_gcd.l0 k a0 a1
set_option maxHeartbeats 8000000 in
set_option maxRecDepth 100000 in
theorem sky_gcd.calls (k:Nat) (a0:Int) (a1:Int) (r:Int) (w:World) (h:sky_gcd.f k a0 a1=some r):
  Calls Tryz.prog 93 #[.int .i64 a0,.int .i64 a1] w fun e w'=>e=.returned (.int .i64 r)∧Drawn0 w w':=by
 have H:(sky_gcd.l0 k a0 a1)=some r:=h
 clear h
 have H':=A0_ H
 clear H
 go_enter Tryz.func93,Tryz.ntmps93
 go_wp2
 repeat (go_quiet (fail);try go_wp2)
 go_loopg [0,1] k (fun kq v0 v1 w'=>∃ (x0_1:Int) (x1_1:Int),v0=.int .i64 x0_1∧v1=.int .i64 x1_1∧Aside0 (sky_gcd.l0 kq x0_1 x1_1=some r)∧Aside0 (kq≤k)∧Drawn0 w w')
 case atStart=>exact ⟨(a0),(a1),y5_,y5_,H',⟨Nat.le_refl _⟩,yt_⟩
 case round=>
  clear H'
  (try clear p2)
  obtain ⟨x0_1,x1_1,rfl,rfl,HA,HK1,⟨m1,rfl⟩⟩:=hrel
  cases gk with
  |zero=>exact absurd HA.out (by simp [sky_gcd.l0])
  |succ k1=>
   have H:=HA.out
   clear HA
   simp only [sky_gcd.l0] at H
   by_cases c3:x1_1 > 0
   ·rw [if_pos c3] at H;have c3b0:decide (0<x1_1)=true:=decide_eq_true c3;clear c3
    by_cases c4:x1_1=0
    ·rw [if_pos c4] at H;exact absurd H (by simp)
    ·rw [if_neg c4] at H
     have c4b0:(x1_1 == 0)=false:=beq_eq_false_iff_ne.mpr c4
     have c4b1:(x1_1 != 0)=true:=bne_iff_ne.mpr c4
     have H':=A0_ H
     clear H;go_wp2
     repeat (go_quiet (fail);try go_wp2)
     go_roundg k1
     case measure=>have:=HK1.out;omega
     case rel=>exact ⟨(x1_1),(Int.tmod x0_1 x1_1),y5_,y5_,H',⟨by have:=HK1.out;omega⟩,yt_⟩
   ·rw [if_neg c3] at H;have c3b0:decide (0<x1_1)=false:=decide_eq_false c3;clear c3;obtain rfl:=Option.some.inj H;go_wp2
    repeat (go_quiet (fail);try go_wp2)
    go_ret
    exact ⟨y5_,yt_⟩
end Go.Proofs.YtaidphhkhddemaaGreatDoor.PSky
end
section
namespace Go.Proofs.YtaidphhkhddemaaGreatDoor.PSky
open Go.RowKit Go.Proofs.YtaidphhkhddemaaGreatDoorW.PrintWords Go.Proofs.YtaidphhkhddemaaGreatDoorW.PrintLast Go.Proofs.YtaidphhkhddemaaGreatDoorW.PrintMore
attribute [local go_sem] max2_int min2_int max_two min_two max_three min_three max_four min_four
set_option linter.unusedVariables false
set_option linter.unusedSimpArgs false
def sky_month.f (l0_0:List (S83)) (a0_1:Int) (a0_2:Int) (a0_3:Int):Option (Int × Int):=if 0<(l0_0.length:Int) then (if 1<(l0_0.length:Int) then (if (wrap64 ((wrap64 (((rd_T83 l0_0 1).f0.f1)*((rd_T83 l0_0 0).f0.f0))) - (wrap64 (((rd_T83 l0_0 0).f0.f1)*((rd_T83 l0_0 1).f0.f0)))))≤0 then (none) else (some (wrap64 (((rd_T83 l0_0 1).f0.f0)*((rd_T83 l0_0 0).f0.f0)),wrap64 ((wrap64 (((rd_T83 l0_0 1).f0.f1)*((rd_T83 l0_0 0).f0.f0))) - (wrap64 (((rd_T83 l0_0 0).f0.f1)*((rd_T83 l0_0 1).f0.f0))))))) else (none)) else (none)
def sky_month.T1:Bool × List (List Nat × List Nat):=(true,[([],[]),([0],[0]),([1],[1]),([2],[2]),([3],[3]),([],[]),([5],[5]),([6],[6]),([7],[7]),([8],[8]),([],[]),([],[]),([10,4,0,1,2,3,4,10,11],[4,10]),([11,9,12,0,1,2,3,4,5,6,7,8,9,10,11,12],[9,11])])
def sky_month.B1:List Nat:=[0,1,3,7,15,0,32,96,224,480,0,0,3103,8191]
theorem sky_month.tab1:rtab .any (opsOf Tryz.f92 1)=sky_month.T1:=by kernel_rfl
theorem sky_month.bits1:waitsOk sky_month.T1.2 sky_month.B1=true:=by kernel_rfl
def sky_month.T2:Bool × List (List Nat × List Nat):=(true,[([],[]),([0],[0]),([],[]),([2],[2]),([1,3],[1,3]),([],[]),([5],[5]),([],[]),([7],[7]),([6,8],[6,8]),([],[]),([10],[10]),([],[]),([12],[12]),([11,13],[11,13]),([9,14],[9,14]),([4,0,1,2,3,4],[4]),([15,16,0,1,2,3,4,5,6,7,8,9,10,11,12,13,14,15,16],[15])])
def sky_month.B2:List Nat:=[0,1,0,4,15,0,32,0,128,480,0,1024,0,4096,15360,32736,31,131071]
theorem sky_month.tab2:rtab .any (opsOf Tryz.f92 2)=sky_month.T2:=by kernel_rfl
theorem sky_month.bits2:waitsOk sky_month.T2.2 sky_month.B2=true:=by kernel_rfl
set_option maxHeartbeats 8000000 in
set_option maxRecDepth 100000 in
theorem sky_month.calls (A0_0:Option Addr) (c0_0:Nat) (l0_0:List (S83)) (a0_1:Int) (a0_2:Int) (a0_3:Int) (r1:Int) (r2:Int) (w:World) (hr0_0:Kd.C k83 w A0_0 l0_0.length l0_0) (hc0_0:l0_0.length≤c0_0) (h:sky_month.f l0_0 a0_1 a0_2 a0_3=some (r1,r2)):
  Calls Tryz.prog 92 #[.agg #[.slice A0_0 l0_0.length c0_0,.int .i64 a0_1,.int .i64 a0_2,.int .i64 a0_3]] w fun e w'=>e=.returned (.tuple #[.int .i64 r1,.int .i64 r2])∧Below w.heap.size w w':=by
 have hu28:=Tryz.underlying28
 have hu24:=Tryz.underlying24
 have hu121:=Tryz.underlying121
 have HR0_0:=A0_ hr0_0;have HC0_0:=A0_ hc0_0;clear hr0_0 hc0_0
 have HB:=A0_ (Below.refl w.heap.size w)
 have H:(if 0<(l0_0.length:Int) then (if 1<(l0_0.length:Int) then (if (wrap64 ((wrap64 (((rd_T83 l0_0 1).f0.f1)*((rd_T83 l0_0 0).f0.f0))) - (wrap64 (((rd_T83 l0_0 0).f0.f1)*((rd_T83 l0_0 1).f0.f0)))))≤0 then (none) else (some (wrap64 (((rd_T83 l0_0 1).f0.f0)*((rd_T83 l0_0 0).f0.f0)),wrap64 ((wrap64 (((rd_T83 l0_0 1).f0.f1)*((rd_T83 l0_0 0).f0.f0))) - (wrap64 (((rd_T83 l0_0 0).f0.f1)*((rd_T83 l0_0 1).f0.f0))))))) else (none)) else (none))=some (r1,r2):=h
 clear h
 by_cases c2:0<(l0_0.length:Int)
 ·rw [if_pos c2] at H;have c2b0:decide (0<(l0_0.length:Int))=true:=decide_eq_true c2
  have c2b1:decide (0<l0_0.length)=true:=decide_eq_true (by omega)
  clear c2
  by_cases c3:1<(l0_0.length:Int)
  ·rw [if_pos c3] at H;have c3b0:decide (1<(l0_0.length:Int))=true:=decide_eq_true c3
   have c3b1:decide (1<l0_0.length)=true:=decide_eq_true (by omega)
   clear c3
   by_cases c4:(wrap64 ((wrap64 (((rd_T83 l0_0 1).f0.f1)*((rd_T83 l0_0 0).f0.f0))) - (wrap64 (((rd_T83 l0_0 0).f0.f1)*((rd_T83 l0_0 1).f0.f0)))))≤0
   ·rw [if_pos c4] at H;exact absurd H (by simp)
   ·rw [if_neg c4] at H;have c4b0:decide ((wrap64 ((wrap64 (((rd_T83 l0_0 1).f0.f1)*((rd_T83 l0_0 0).f0.f0))) - (wrap64 (((rd_T83 l0_0 0).f0.f1)*((rd_T83 l0_0 1).f0.f0)))))≤0)=false:=decide_eq_false c4;clear c4
    simp only [Option.some.injEq,Prod.mk.injEq] at H
    obtain ⟨rfl,rfl⟩:=H
    go_enter Tryz.func92,Tryz.ntmps92
    try go_wp2_with (first|((with_reducible refine gate_dst (N:=1) rfl ?_);refine box_event ?hg (N:=1) ?hd (cs:=#[.slice A0_0 l0_0.length c0_0,.int .i64 a0_1,.int .i64 a0_2,.int .i64 a0_3]) (t:=28) ?hr ?_;(case hd=>rfl);(case hg=>rfl);(case hr=>first|(go_simp;done)|(go_simp;rfl));intro gb581 hg w5 hbox hb;have n0_:=A0_ (below_step y0_ hb);have n1_:=A0_ (hbox);have n2_:=A0_ ((by rw [hg];exact (below_size y0_):w.heap.size≤gb581));have n3_:=A0_ ((by rw [hg];exact (below_size y0_):w.heap.size≤gb581));clear HB;have HB:=n0_;have BK581:=n1_;have GW581:=n2_;have GE581:=n3_;clear n0_ n1_ n2_ n3_;clear hb hbox hg))
    have n0_:=A0_ (blk_drew BK581.out);have n1_:=A0_ (below_drew1 HB.out);clear BK581;clear HB;have BK581:=n0_;have HB:=n1_;clear n0_ n1_
    have p582:0≤(0:Int):=(by omega)
    have q582:0<(l0_0.length:Int):=of_decide_eq_true y6_
    obtain ⟨ad582,A582_3,c582_3,e582,hx582_0,hx582_1,hx582_2,hx582_3,hl582_3,hi582_3⟩:=at_T83 HR0_0.out 0 p582 q582
    have hw582_3:=hx582_3
    (try rw [show ((0:Int)).toNat=0 from rfl] at hw582_3)
    (try rw [show 0*4=0 from rfl] at hw582_3)
    (try rw [Addr.add_zero'] at hw582_3)
    have hw582_2:=hx582_2
    (try rw [show ((0:Int)).toNat=0 from rfl] at hw582_2)
    (try rw [show 0*4=0 from rfl] at hw582_2)
    (try rw [Addr.add_zero'] at hw582_2)
    have hw582_1:=hx582_1
    (try rw [show ((0:Int)).toNat=0 from rfl] at hw582_1)
    (try rw [show 0*4=0 from rfl] at hw582_1)
    (try rw [Addr.add_zero'] at hw582_1)
    have hw582_0:=hx582_0
    (try rw [show ((0:Int)).toNat=0 from rfl] at hw582_0)
    (try rw [show 0*4=0 from rfl] at hw582_0)
    (try rw [Addr.add_zero'] at hw582_0)
    cases e582
    have qi582:(0<l0_0.length)=True:=eq_true (by omega)
    (try rw [show ((0:Int)).toNat=0 from rfl] at hx582_0)
    (try rw [show 0*4=0 from rfl] at hx582_0)
    (try rw [Addr.add_zero'] at hx582_0)
    (try rw [show ((0:Int)).toNat=0 from rfl] at hx582_1)
    (try rw [show 0*4=0 from rfl] at hx582_1)
    (try rw [Addr.add_zero'] at hx582_1)
    (try rw [show ((0:Int)).toNat=0 from rfl] at hx582_2)
    (try rw [show 0*4=0 from rfl] at hx582_2)
    (try rw [Addr.add_zero'] at hx582_2)
    (try rw [show ((0:Int)).toNat=0 from rfl] at hx582_3)
    (try rw [show 0*4=0 from rfl] at hx582_3)
    (try rw [Addr.add_zero'] at hx582_3)
    replace hx582_0:=(HB.out.cell (World.block_lt_of_cell? w _ hx582_0)).trans hx582_0
    replace hx582_1:=(HB.out.cell (World.block_lt_of_cell? w _ hx582_1)).trans hx582_1
    replace hx582_2:=(HB.out.cell (World.block_lt_of_cell? w _ hx582_2)).trans hx582_2
    replace hx582_3:=(HB.out.cell (World.block_lt_of_cell? w _ hx582_3)).trans hx582_3
    have HR582_3:=A0_ hi582_3;have HC582_3:=A0_ hl582_3;clear hi582_3 hl582_3
    replace p582:=eq_true p582
    replace q582:=eq_true q582
    have p583:0≤(1:Int):=(by omega)
    have q583:1<(l0_0.length:Int):=of_decide_eq_true y6_
    obtain ⟨ad583,A583_3,c583_3,e583,hx583_0,hx583_1,hx583_2,hx583_3,hl583_3,hi583_3⟩:=at_T83 HR0_0.out 1 p583 q583
    have hw583_3:=hx583_3
    (try rw [show ((1:Int)).toNat=1 from rfl] at hw583_3)
    (try rw [show 1*4=4 from rfl] at hw583_3)
    (try simp only [Nat.reduceMul,Nat.reduceEqDiff,Go.Addr.add,↓reduceIte] at hw583_3)
    have hw583_2:=hx583_2
    (try rw [show ((1:Int)).toNat=1 from rfl] at hw583_2)
    (try rw [show 1*4=4 from rfl] at hw583_2)
    (try simp only [Nat.reduceMul,Nat.reduceEqDiff,Go.Addr.add,↓reduceIte] at hw583_2)
    have hw583_1:=hx583_1
    (try rw [show ((1:Int)).toNat=1 from rfl] at hw583_1)
    (try rw [show 1*4=4 from rfl] at hw583_1)
    (try simp only [Nat.reduceMul,Nat.reduceEqDiff,Go.Addr.add,↓reduceIte] at hw583_1)
    have hw583_0:=hx583_0
    (try rw [show ((1:Int)).toNat=1 from rfl] at hw583_0)
    (try rw [show 1*4=4 from rfl] at hw583_0)
    (try simp only [Nat.reduceMul,Nat.reduceEqDiff,Go.Addr.add,↓reduceIte] at hw583_0)
    obtain rfl:ad582=ad583:=(by injection e583)
    (try simp only [show (1:Int).toNat=1 from rfl,Nat.reduceMul,Nat.reduceEqDiff,Go.Addr.add,↓reduceIte] at hx583_0)
    (try simp only [show (1:Int).toNat=1 from rfl,Nat.reduceMul,Nat.reduceEqDiff,Go.Addr.add,↓reduceIte] at hx583_1)
    (try simp only [show (1:Int).toNat=1 from rfl,Nat.reduceMul,Nat.reduceEqDiff,Go.Addr.add,↓reduceIte] at hx583_2)
    (try simp only [show (1:Int).toNat=1 from rfl,Nat.reduceMul,Nat.reduceEqDiff,Go.Addr.add,↓reduceIte] at hx583_3)
    have qi583:(1<l0_0.length)=True:=eq_true (by omega)
    (try rw [show ((1:Int)).toNat=1 from rfl] at hx583_0)
    (try rw [show 1*4=4 from rfl] at hx583_0)
    (try rw [show ((1:Int)).toNat=1 from rfl] at hx583_1)
    (try rw [show 1*4=4 from rfl] at hx583_1)
    (try rw [show ((1:Int)).toNat=1 from rfl] at hx583_2)
    (try rw [show 1*4=4 from rfl] at hx583_2)
    (try rw [show ((1:Int)).toNat=1 from rfl] at hx583_3)
    (try rw [show 1*4=4 from rfl] at hx583_3)
    replace hx583_0:=(HB.out.cell (World.block_lt_of_cell? w _ hx583_0)).trans hx583_0
    replace hx583_1:=(HB.out.cell (World.block_lt_of_cell? w _ hx583_1)).trans hx583_1
    replace hx583_2:=(HB.out.cell (World.block_lt_of_cell? w _ hx583_2)).trans hx583_2
    replace hx583_3:=(HB.out.cell (World.block_lt_of_cell? w _ hx583_3)).trans hx583_3
    have HR583_3:=A0_ hi583_3;have HC583_3:=A0_ hl583_3;clear hi583_3 hl583_3
    replace p583:=eq_true p583
    replace q583:=eq_true q583
    refine start_ (n:=14) (S:=fun w'=>w'.cell? ⟨gb581,0,none⟩=some (.slice (some ad582) l0_0.length c0_0)∧w'.cell? ⟨gb581,1,none⟩=some (.int .i64 a0_1)∧w'.cell? ⟨gb581,2,none⟩=some (.int .i64 a0_2)∧w'.cell? ⟨gb581,3,none⟩=some (.int .i64 a0_3)∧w'.cell? ad582=some (.int .i64 ((rd_T83 l0_0 0).f0.f0))∧w'.cell? ⟨ad582.block,ad582.off+1,none⟩=some (.int .i64 ((rd_T83 l0_0 0).f0.f1))∧w'.cell? ⟨ad582.block,ad582.off+2,none⟩=some (.int .i64 ((rd_T83 l0_0 0).f1))∧w'.cell? ⟨ad582.block,ad582.off+3,none⟩=some (.slice A582_3 ((rd_T83 l0_0 0).f2).length c582_3)∧w'.cell? ⟨ad582.block,ad582.off+4,none⟩=some (.int .i64 ((rd_T83 l0_0 1).f0.f0))∧w'.cell? ⟨ad582.block,ad582.off+4+1,none⟩=some (.int .i64 ((rd_T83 l0_0 1).f0.f1))∧w'.cell? ⟨ad582.block,ad582.off+4+2,none⟩=some (.int .i64 ((rd_T83 l0_0 1).f1))∧w'.cell? ⟨ad582.block,ad582.off+4+3,none⟩=some (.slice A583_3 ((rd_T83 l0_0 1).f2).length c583_3)) (ds:=[]) #[false,false,false,false,false,false,false,false,false,false,false,false,false,false] (by kernel_rfl) rfl rfl ⟨(blk_cell BK581.out 0).trans rfl,(blk_cell BK581.out 1).trans rfl,(blk_cell BK581.out 2).trans rfl,(blk_cell BK581.out 3).trans rfl,((HB.out.cell (World.block_lt_of_cell? w _ hw582_0)).trans hw582_0),((HB.out.cell (World.block_lt_of_cell? w _ hw582_1)).trans hw582_1),((HB.out.cell (World.block_lt_of_cell? w _ hw582_2)).trans hw582_2),((HB.out.cell (World.block_lt_of_cell? w _ hw582_3)).trans hw582_3),((HB.out.cell (World.block_lt_of_cell? w _ hw583_0)).trans hw583_0),((HB.out.cell (World.block_lt_of_cell? w _ hw583_1)).trans hw583_1),((HB.out.cell (World.block_lt_of_cell? w _ hw583_2)).trans hw583_2),((HB.out.cell (World.block_lt_of_cell? w _ hw583_3)).trans hw583_3)⟩ (fun hHeld=>?_);refine with_tabW sky_month.tab1 sky_month.bits1 (fun HT_ HW_=>?_)
    generalize w5.drew=w6 at BK581 HB HR582_3 HR583_3 hx582_0 hx582_1 hx582_2 hx582_3 hx583_0 hx583_1 hx583_2 hx583_3 hHeld ⊢
    refine pu_ (i:=0) (N:=some 8) ?_;refine pu_ (i:=5) (N:=some 13) ?_;refine ta_ (i:=1) (N:=some 9) ?_;refine pu_ (i:=2) (N:=some 10) ?_;refine pu_ (i:=3) (N:=some 11) ?_;refine ta_ (i:=4) (N:=some 12) ?_;refine ta_ (i:=6) (N:=some 14) ?_;refine pu_ (i:=7) (N:=some 15) ?_;refine pu_ (i:=8) (N:=some 16) ?_;refine ta_ (i:=9) (N:=some 17) ?_
    refine join_ (σ:=Nat × Nat) 2 #[true,true,true,true,true,true,true,true,true,true,true,true,false,false] (fun s_=>[(4,.pointer (some ⟨s_.1,0,none⟩)),(5,.pointer (some ⟨s_.2,0,none⟩))]) (fun s_ w'=>(w'.cell? ⟨gb581,0,none⟩=some (.slice (some ad582) l0_0.length c0_0)∧w'.cell? ⟨gb581,1,none⟩=some (.int .i64 a0_1)∧w'.cell? ⟨gb581,2,none⟩=some (.int .i64 a0_2)∧w'.cell? ⟨gb581,3,none⟩=some (.int .i64 a0_3)∧w'.cell? ad582=some (.int .i64 ((rd_T83 l0_0 0).f0.f0))∧w'.cell? ⟨ad582.block,ad582.off+1,none⟩=some (.int .i64 ((rd_T83 l0_0 0).f0.f1))∧w'.cell? ⟨ad582.block,ad582.off+2,none⟩=some (.int .i64 ((rd_T83 l0_0 0).f1))∧w'.cell? ⟨ad582.block,ad582.off+3,none⟩=some (.slice A582_3 ((rd_T83 l0_0 0).f2).length c582_3)∧w'.cell? ⟨ad582.block,ad582.off+4,none⟩=some (.int .i64 ((rd_T83 l0_0 1).f0.f0))∧w'.cell? ⟨ad582.block,ad582.off+4+1,none⟩=some (.int .i64 ((rd_T83 l0_0 1).f0.f1))∧w'.cell? ⟨ad582.block,ad582.off+4+2,none⟩=some (.int .i64 ((rd_T83 l0_0 1).f1))∧w'.cell? ⟨ad582.block,ad582.off+4+3,none⟩=some (.slice A583_3 ((rd_T83 l0_0 1).f2).length c583_3))∧(w'.heap[gb581]?=some (.cells #[.slice (some ad582) l0_0.length c0_0,.int .i64 a0_1,.int .i64 a0_2,.int .i64 a0_3] 28 (0,0)))∧(w'.heap[s_.1]?=some (.cells #[.int .i64 0,.int .i64 0] 24 (0,0)))∧(w'.heap[s_.2]?=some (.cells #[.int .i64 0,.int .i64 0] 24 (0,0)))∧(w.heap.size≤s_.1)∧(w.heap.size≤s_.1)∧(gb581≠s_.1)∧(s_.1≠gb581)∧(s_.2≠s_.1)∧(s_.1≠s_.2)∧(w.heap.size≤s_.2)∧(w.heap.size≤s_.2)∧(gb581≠s_.2)∧(s_.2≠gb581)∧(Below w.heap.size w w')) ?_ ?_
    rotate_left
    ·intro hCont
     refine two_ (i:=10) (j:=11) (Ni:=some 4) (Nj:=some 5) #[true,true,true,true,true,true,true,true,true,true,true,false,false,false] #[true,true,true,true,true,true,true,true,true,true,false,true,false,false] rfl rfl rfl rfl (two_of HT_.out (by kernel_rfl)) (by decide) (by decide) (fun K hK=>?_) (fun K hK=>?_)
     ·skip
      refine box_step ?hg (N:=4) ?hd (cs:=#[.int .i64 0,.int .i64 0]) (t:=24) ?hr ?_;(case hd=>rfl);(case hg=>rfl);(case hr=>first|(go_simp;done)|(go_simp;rfl))
      intro gb584 hg w7 hbox hb
      have n0_:=A0_ (blk_below (g:=gb581) (o:=.cells #[.slice (some ad582) l0_0.length c0_0,.int .i64 a0_1,.int .i64 a0_2,.int .i64 a0_3] 28 (0,0)) (bd_ BK581.out) hb);have n1_:=A0_ (below_step y24_ hb);have n2_:=A0_ (hbox)
      have n3_:=A0_ ((by rw [hg];exact (below_size y24_):w.heap.size≤gb584))
      have n4_:=A0_ ((by rw [hg];exact (below_size y24_):w.heap.size≤gb584))
      have n5_:=A0_ ((by rw [hg];exact Nat.ne_of_lt (blk_lt (g:=gb581) (o:=.cells #[.slice (some ad582) l0_0.length c0_0,.int .i64 a0_1,.int .i64 a0_2,.int .i64 a0_3] 28 (0,0)) (bd_ BK581.out)):gb581≠gb584))
      have n6_:=A0_ ((by rw [hg];exact Nat.ne_of_gt (blk_lt (g:=gb581) (o:=.cells #[.slice (some ad582) l0_0.length c0_0,.int .i64 a0_1,.int .i64 a0_2,.int .i64 a0_3] 28 (0,0)) (bd_ BK581.out)):gb584≠gb581))
      clear BK581;clear HB;have BK581:=n0_;have HB:=n1_;have BK584:=n2_;have GW584:=n3_;have GE584:=n4_;have NB581_584:=n5_;have NB584_581:=n6_;clear n0_ n1_ n2_ n3_ n4_ n5_ n6_;clear hb hbox hg
      refine hK.out _ _ ⟨(blk_cell BK581.out 0).trans rfl,(blk_cell BK581.out 1).trans rfl,(blk_cell BK581.out 2).trans rfl,(blk_cell BK581.out 3).trans rfl,((HB.out.cell (World.block_lt_of_cell? w _ hw582_0)).trans hw582_0),((HB.out.cell (World.block_lt_of_cell? w _ hw582_1)).trans hw582_1),((HB.out.cell (World.block_lt_of_cell? w _ hw582_2)).trans hw582_2),((HB.out.cell (World.block_lt_of_cell? w _ hw582_3)).trans hw582_3),((HB.out.cell (World.block_lt_of_cell? w _ hw583_0)).trans hw583_0),((HB.out.cell (World.block_lt_of_cell? w _ hw583_1)).trans hw583_1),((HB.out.cell (World.block_lt_of_cell? w _ hw583_2)).trans hw583_2),((HB.out.cell (World.block_lt_of_cell? w _ hw583_3)).trans hw583_3)⟩ (fun hHeld=>?_)
      clear hK K
      refine norm_ (a':=?_) ?_ ?_
      rotate_left
      ·show Act.put _ (some 4) _=_
       simp only [Act.put,List.setIfInBounds_toArray,List.set_cons_zero,List.set_cons_succ,i64_w,i32_w]
       rfl
      refine one_ (i:=11) (N:=some 5) #[true,true,true,true,true,true,true,true,true,true,true,true,false,false] rfl rfl (one_of HT_.out (by kernel_rfl)) (by decide) (fun K hK=>?_)
      refine box_step ?hg (N:=5) ?hd (cs:=#[.int .i64 0,.int .i64 0]) (t:=24) ?hr ?_;(case hd=>rfl);(case hg=>rfl);(case hr=>first|(go_simp;done)|(go_simp;rfl))
      intro gb585 hg w8 hbox hb
      have n0_:=A0_ (blk_below (g:=gb581) (o:=.cells #[.slice (some ad582) l0_0.length c0_0,.int .i64 a0_1,.int .i64 a0_2,.int .i64 a0_3] 28 (0,0)) (bd_ BK581.out) hb);have n1_:=A0_ (blk_below (g:=gb584) (o:=.cells #[.int .i64 0,.int .i64 0] 24 (0,0)) (bd_ BK584.out) hb);have n2_:=A0_ (below_step y2s_ hb);have n3_:=A0_ (hbox)
      have n4_:=A0_ ((by rw [hg];exact (below_size y2s_):w.heap.size≤gb585))
      have n5_:=A0_ ((by rw [hg];exact (below_size y2s_):w.heap.size≤gb585))
      have n6_:=A0_ ((by rw [hg];exact Nat.ne_of_lt (blk_lt (g:=gb581) (o:=.cells #[.slice (some ad582) l0_0.length c0_0,.int .i64 a0_1,.int .i64 a0_2,.int .i64 a0_3] 28 (0,0)) (bd_ BK581.out)):gb581≠gb585))
      have n7_:=A0_ ((by rw [hg];exact Nat.ne_of_gt (blk_lt (g:=gb581) (o:=.cells #[.slice (some ad582) l0_0.length c0_0,.int .i64 a0_1,.int .i64 a0_2,.int .i64 a0_3] 28 (0,0)) (bd_ BK581.out)):gb585≠gb581))
      have n8_:=A0_ ((by rw [hg];exact Nat.ne_of_lt (blk_lt (g:=gb584) (o:=.cells #[.int .i64 0,.int .i64 0] 24 (0,0)) (bd_ BK584.out)):gb584≠gb585))
      have n9_:=A0_ ((by rw [hg];exact Nat.ne_of_gt (blk_lt (g:=gb584) (o:=.cells #[.int .i64 0,.int .i64 0] 24 (0,0)) (bd_ BK584.out)):gb585≠gb584))
      clear BK581;clear BK584;clear HB;have BK581:=n0_;have BK584:=n1_;have HB:=n2_;have BK585:=n3_;have GW585:=n4_;have GE585:=n5_;have NB581_585:=n6_;have NB585_581:=n7_;have NB584_585:=n8_;have NB585_584:=n9_;clear n0_ n1_ n2_ n3_ n4_ n5_ n6_ n7_ n8_ n9_;clear hb hbox hg
      refine hK.out _ _ ⟨(blk_cell BK581.out 0).trans rfl,(blk_cell BK581.out 1).trans rfl,(blk_cell BK581.out 2).trans rfl,(blk_cell BK581.out 3).trans rfl,((HB.out.cell (World.block_lt_of_cell? w _ hw582_0)).trans hw582_0),((HB.out.cell (World.block_lt_of_cell? w _ hw582_1)).trans hw582_1),((HB.out.cell (World.block_lt_of_cell? w _ hw582_2)).trans hw582_2),((HB.out.cell (World.block_lt_of_cell? w _ hw582_3)).trans hw582_3),((HB.out.cell (World.block_lt_of_cell? w _ hw583_0)).trans hw583_0),((HB.out.cell (World.block_lt_of_cell? w _ hw583_1)).trans hw583_1),((HB.out.cell (World.block_lt_of_cell? w _ hw583_2)).trans hw583_2),((HB.out.cell (World.block_lt_of_cell? w _ hw583_3)).trans hw583_3)⟩ (fun hHeld=>?_)
      clear hK K
      refine norm_ (a':=?_) ?_ ?_
      rotate_left
      ·show Act.put _ (some 5) _=_
       simp only [Act.put,List.setIfInBounds_toArray,List.set_cons_zero,List.set_cons_succ,i64_w,i32_w]
       rfl
      exact norm_ y3w_ (hCont (gb584,gb585) _ ⟨hHeld,(bd_ BK581.out),(bd_ BK584.out),(bd_ BK585.out),GW584.out,GE584.out,NB581_584.out,NB584_581.out,NB585_584.out,NB584_585.out,GW585.out,GE585.out,NB581_585.out,NB585_581.out,y2u_⟩)
     ·skip
      refine box_step ?hg (N:=5) ?hd (cs:=#[.int .i64 0,.int .i64 0]) (t:=24) ?hr ?_;(case hd=>rfl);(case hg=>rfl);(case hr=>first|(go_simp;done)|(go_simp;rfl))
      intro gb585 hg w7 hbox hb
      have n0_:=A0_ (blk_below (g:=gb581) (o:=.cells #[.slice (some ad582) l0_0.length c0_0,.int .i64 a0_1,.int .i64 a0_2,.int .i64 a0_3] 28 (0,0)) (bd_ BK581.out) hb);have n1_:=A0_ (below_step y24_ hb);have n2_:=A0_ (hbox)
      have n3_:=A0_ ((by rw [hg];exact (below_size y24_):w.heap.size≤gb585))
      have n4_:=A0_ ((by rw [hg];exact (below_size y24_):w.heap.size≤gb585))
      have n5_:=A0_ ((by rw [hg];exact Nat.ne_of_lt (blk_lt (g:=gb581) (o:=.cells #[.slice (some ad582) l0_0.length c0_0,.int .i64 a0_1,.int .i64 a0_2,.int .i64 a0_3] 28 (0,0)) (bd_ BK581.out)):gb581≠gb585))
      have n6_:=A0_ ((by rw [hg];exact Nat.ne_of_gt (blk_lt (g:=gb581) (o:=.cells #[.slice (some ad582) l0_0.length c0_0,.int .i64 a0_1,.int .i64 a0_2,.int .i64 a0_3] 28 (0,0)) (bd_ BK581.out)):gb585≠gb581))
      clear BK581;clear HB;have BK581:=n0_;have HB:=n1_;have BK585:=n2_;have GW585:=n3_;have GE585:=n4_;have NB581_585:=n5_;have NB585_581:=n6_;clear n0_ n1_ n2_ n3_ n4_ n5_ n6_;clear hb hbox hg
      refine hK.out _ _ ⟨(blk_cell BK581.out 0).trans rfl,(blk_cell BK581.out 1).trans rfl,(blk_cell BK581.out 2).trans rfl,(blk_cell BK581.out 3).trans rfl,((HB.out.cell (World.block_lt_of_cell? w _ hw582_0)).trans hw582_0),((HB.out.cell (World.block_lt_of_cell? w _ hw582_1)).trans hw582_1),((HB.out.cell (World.block_lt_of_cell? w _ hw582_2)).trans hw582_2),((HB.out.cell (World.block_lt_of_cell? w _ hw582_3)).trans hw582_3),((HB.out.cell (World.block_lt_of_cell? w _ hw583_0)).trans hw583_0),((HB.out.cell (World.block_lt_of_cell? w _ hw583_1)).trans hw583_1),((HB.out.cell (World.block_lt_of_cell? w _ hw583_2)).trans hw583_2),((HB.out.cell (World.block_lt_of_cell? w _ hw583_3)).trans hw583_3)⟩ (fun hHeld=>?_)
      clear hK K
      refine norm_ (a':=?_) ?_ ?_
      rotate_left
      ·show Act.put _ (some 5) _=_
       simp only [Act.put,List.setIfInBounds_toArray,List.set_cons_zero,List.set_cons_succ,i64_w,i32_w]
       rfl
      refine one_ (i:=10) (N:=some 4) #[true,true,true,true,true,true,true,true,true,true,true,true,false,false] rfl rfl (one_of HT_.out (by kernel_rfl)) (by decide) (fun K hK=>?_)
      refine box_step ?hg (N:=4) ?hd (cs:=#[.int .i64 0,.int .i64 0]) (t:=24) ?hr ?_;(case hd=>rfl);(case hg=>rfl);(case hr=>first|(go_simp;done)|(go_simp;rfl))
      intro gb584 hg w8 hbox hb
      have n0_:=A0_ (blk_below (g:=gb581) (o:=.cells #[.slice (some ad582) l0_0.length c0_0,.int .i64 a0_1,.int .i64 a0_2,.int .i64 a0_3] 28 (0,0)) (bd_ BK581.out) hb);have n1_:=A0_ (blk_below (g:=gb585) (o:=.cells #[.int .i64 0,.int .i64 0] 24 (0,0)) (bd_ BK585.out) hb);have n2_:=A0_ (below_step y2r_ hb);have n3_:=A0_ (hbox)
      have n4_:=A0_ ((by rw [hg];exact (below_size y2r_):w.heap.size≤gb584))
      have n5_:=A0_ ((by rw [hg];exact (below_size y2r_):w.heap.size≤gb584))
      have n6_:=A0_ ((by rw [hg];exact Nat.ne_of_lt (blk_lt (g:=gb581) (o:=.cells #[.slice (some ad582) l0_0.length c0_0,.int .i64 a0_1,.int .i64 a0_2,.int .i64 a0_3] 28 (0,0)) (bd_ BK581.out)):gb581≠gb584))
      have n7_:=A0_ ((by rw [hg];exact Nat.ne_of_gt (blk_lt (g:=gb581) (o:=.cells #[.slice (some ad582) l0_0.length c0_0,.int .i64 a0_1,.int .i64 a0_2,.int .i64 a0_3] 28 (0,0)) (bd_ BK581.out)):gb584≠gb581))
      have n8_:=A0_ ((by rw [hg];exact Nat.ne_of_lt (blk_lt (g:=gb585) (o:=.cells #[.int .i64 0,.int .i64 0] 24 (0,0)) (bd_ BK585.out)):gb585≠gb584))
      have n9_:=A0_ ((by rw [hg];exact Nat.ne_of_gt (blk_lt (g:=gb585) (o:=.cells #[.int .i64 0,.int .i64 0] 24 (0,0)) (bd_ BK585.out)):gb584≠gb585))
      clear BK581;clear BK585;clear HB;have BK581:=n0_;have BK585:=n1_;have HB:=n2_;have BK584:=n3_;have GW584:=n4_;have GE584:=n5_;have NB581_584:=n6_;have NB584_581:=n7_;have NB585_584:=n8_;have NB584_585:=n9_;clear n0_ n1_ n2_ n3_ n4_ n5_ n6_ n7_ n8_ n9_;clear hb hbox hg
      refine hK.out _ _ ⟨(blk_cell BK581.out 0).trans rfl,(blk_cell BK581.out 1).trans rfl,(blk_cell BK581.out 2).trans rfl,(blk_cell BK581.out 3).trans rfl,((HB.out.cell (World.block_lt_of_cell? w _ hw582_0)).trans hw582_0),((HB.out.cell (World.block_lt_of_cell? w _ hw582_1)).trans hw582_1),((HB.out.cell (World.block_lt_of_cell? w _ hw582_2)).trans hw582_2),((HB.out.cell (World.block_lt_of_cell? w _ hw582_3)).trans hw582_3),((HB.out.cell (World.block_lt_of_cell? w _ hw583_0)).trans hw583_0),((HB.out.cell (World.block_lt_of_cell? w _ hw583_1)).trans hw583_1),((HB.out.cell (World.block_lt_of_cell? w _ hw583_2)).trans hw583_2),((HB.out.cell (World.block_lt_of_cell? w _ hw583_3)).trans hw583_3)⟩ (fun hHeld=>?_)
      clear hK K
      refine norm_ (a':=?_) ?_ ?_
      rotate_left
      ·show Act.put _ (some 4) _=_
       simp only [Act.put,List.setIfInBounds_toArray,List.set_cons_zero,List.set_cons_succ,i64_w,i32_w]
       rfl
      exact norm_ y3w_ (hCont (gb584,gb585) _ ⟨hHeld,(bd_ BK581.out),(bd_ BK584.out),(bd_ BK585.out),GW584.out,GE584.out,NB581_584.out,NB584_581.out,NB585_584.out,NB584_585.out,GW585.out,GE585.out,NB581_585.out,NB585_581.out,y4k_⟩)
    rintro ⟨gb584,gb585⟩ w9 ⟨hS_,h0_,h1_,h2_,h3_,h4_,h5_,h6_,h7_,h8_,h9_,h10_,h11_,h12_,h13_⟩
    have n0_:Aside0 (w9.heap[gb581]?=some (.cells #[.slice (some ad582) l0_0.length c0_0,.int .i64 a0_1,.int .i64 a0_2,.int .i64 a0_3] 28 (0,0))):=⟨h0_⟩
    have n1_:Aside0 (w9.heap[gb584]?=some (.cells #[.int .i64 0,.int .i64 0] 24 (0,0))):=⟨h1_⟩
    have n2_:Aside0 (w9.heap[gb585]?=some (.cells #[.int .i64 0,.int .i64 0] 24 (0,0))):=⟨h2_⟩
    have n3_:Aside0 (w.heap.size≤gb584):=⟨h3_⟩
    have n4_:Aside0 (w.heap.size≤gb584):=⟨h4_⟩
    have n5_:Aside0 (gb581≠gb584):=⟨h5_⟩
    have n6_:Aside0 (gb584≠gb581):=⟨h6_⟩
    have n7_:Aside0 (gb585≠gb584):=⟨h7_⟩
    have n8_:Aside0 (gb584≠gb585):=⟨h8_⟩
    have n9_:Aside0 (w.heap.size≤gb585):=⟨h9_⟩
    have n10_:Aside0 (w.heap.size≤gb585):=⟨h10_⟩
    have n11_:Aside0 (gb581≠gb585):=⟨h11_⟩
    have n12_:Aside0 (gb585≠gb581):=⟨h12_⟩
    have n13_:Aside0 (Below w.heap.size w w9):=⟨h13_⟩
    clear BK581;clear HB;clear h0_ h1_ h2_ h3_ h4_ h5_ h6_ h7_ h8_ h9_ h10_ h11_ h12_ h13_;have BK581:=n0_;have BK584:=n1_;have BK585:=n2_;have GW584:=n3_;have GE584:=n4_;have NB581_584:=n5_;have NB584_581:=n6_;have NB585_584:=n7_;have NB584_585:=n8_;have GW585:=n9_;have GE585:=n10_;have NB581_585:=n11_;have NB585_581:=n12_;have HB:=n13_;clear n0_ n1_ n2_ n3_ n4_ n5_ n6_ n7_ n8_ n9_ n10_ n11_ n12_ n13_
    have hHeld:w9.cell? ⟨gb581,0,none⟩=some (.slice (some ad582) l0_0.length c0_0)∧w9.cell? ⟨gb581,1,none⟩=some (.int .i64 a0_1)∧w9.cell? ⟨gb581,2,none⟩=some (.int .i64 a0_2)∧w9.cell? ⟨gb581,3,none⟩=some (.int .i64 a0_3)∧w9.cell? ad582=some (.int .i64 ((rd_T83 l0_0 0).f0.f0))∧w9.cell? ⟨ad582.block,ad582.off+1,none⟩=some (.int .i64 ((rd_T83 l0_0 0).f0.f1))∧w9.cell? ⟨ad582.block,ad582.off+2,none⟩=some (.int .i64 ((rd_T83 l0_0 0).f1))∧w9.cell? ⟨ad582.block,ad582.off+3,none⟩=some (.slice A582_3 ((rd_T83 l0_0 0).f2).length c582_3)∧w9.cell? ⟨ad582.block,ad582.off+4,none⟩=some (.int .i64 ((rd_T83 l0_0 1).f0.f0))∧w9.cell? ⟨ad582.block,ad582.off+4+1,none⟩=some (.int .i64 ((rd_T83 l0_0 1).f0.f1))∧w9.cell? ⟨ad582.block,ad582.off+4+2,none⟩=some (.int .i64 ((rd_T83 l0_0 1).f1))∧w9.cell? ⟨ad582.block,ad582.off+4+3,none⟩=some (.slice A583_3 ((rd_T83 l0_0 1).f2).length c583_3):=hS_
    refine norm_ (a':=?_) ?_ ?_
    rotate_left
    ·simp only [putAll,Act.put,List.setIfInBounds_toArray,List.set_cons_zero,List.set_cons_succ]
     rfl
    refine one_ (i:=12) (N:=none) #[true,true,true,true,true,true,true,true,true,true,true,true,true,false] rfl rfl (one_of HT_.out (by kernel_rfl)) (by decide) (fun K hK=>?_)
    have hs10:w9.cell? ⟨gb584,0,none⟩=some (.int .i64 0):=(blk_cell BK584.out 0).trans rfl
    have hfs10:=blk_frozen BK584.out 0
    have hns10_0:=NB581_584.out
    have hns10_2:=NB585_584.out
    have hms10_0:=NB584_581.out
    have hms10_2:=NB584_585.out
    have hs11:w9.cell? ⟨gb584,1,none⟩=some (.int .i64 0):=(blk_cell BK584.out 1).trans rfl
    have hfs11:=blk_frozen BK584.out 1
    have hns11_0:=NB581_584.out
    have hns11_2:=NB585_584.out
    have hms11_0:=NB584_581.out
    have hms11_2:=NB584_585.out
    refine skip_ (w1:=?_) (by rfl) rfl ?_ ?_
    rotate_left
    ·go_simp
     rfl
    refine hK.out _ _ ⟨((cell_far (p:=⟨gb584,_,none⟩) NB581_584.out _).trans (((cell_far (p:=⟨gb584,_,none⟩) NB581_584.out _).trans (hHeld.1)))),((cell_far (p:=⟨gb584,_,none⟩) NB581_584.out _).trans (((cell_far (p:=⟨gb584,_,none⟩) NB581_584.out _).trans (hHeld.2.1)))),((cell_far (p:=⟨gb584,_,none⟩) NB581_584.out _).trans (((cell_far (p:=⟨gb584,_,none⟩) NB581_584.out _).trans (hHeld.2.2.1)))),((cell_far (p:=⟨gb584,_,none⟩) NB581_584.out _).trans (((cell_far (p:=⟨gb584,_,none⟩) NB581_584.out _).trans (hHeld.2.2.2.1)))),((cell_far (p:=⟨gb584,_,none⟩) y1k_ _).trans (((cell_far (p:=⟨gb584,_,none⟩) y1k_ _).trans (hHeld.2.2.2.2.1)))),((cell_far (p:=⟨gb584,_,none⟩) y1i_ _).trans (((cell_far (p:=⟨gb584,_,none⟩) y1i_ _).trans (hHeld.2.2.2.2.2.1)))),((cell_far (p:=⟨gb584,_,none⟩) y1g_ _).trans (((cell_far (p:=⟨gb584,_,none⟩) y1g_ _).trans (hHeld.2.2.2.2.2.2.1)))),((cell_far (p:=⟨gb584,_,none⟩) y1e_ _).trans (((cell_far (p:=⟨gb584,_,none⟩) y1e_ _).trans (hHeld.2.2.2.2.2.2.2.1)))),((cell_far (p:=⟨gb584,_,none⟩) y1c_ _).trans (((cell_far (p:=⟨gb584,_,none⟩) y1c_ _).trans (hHeld.2.2.2.2.2.2.2.2.1)))),((cell_far (p:=⟨gb584,_,none⟩) y1a_ _).trans (((cell_far (p:=⟨gb584,_,none⟩) y1a_ _).trans (hHeld.2.2.2.2.2.2.2.2.2.1)))),((cell_far (p:=⟨gb584,_,none⟩) y18_ _).trans (((cell_far (p:=⟨gb584,_,none⟩) y18_ _).trans (hHeld.2.2.2.2.2.2.2.2.2.2.1)))),((cell_far (p:=⟨gb584,_,none⟩) y16_ _).trans (((cell_far (p:=⟨gb584,_,none⟩) y16_ _).trans (hHeld.2.2.2.2.2.2.2.2.2.2.2))))⟩ (fun hHeld=>?_)
    clear hK K
    refine one_ (i:=13) (N:=none) #[true,true,true,true,true,true,true,true,true,true,true,true,true,true] rfl rfl (one_of HT_.out (by kernel_rfl)) (by decide) (fun K hK=>?_)
    have hs12:w9.cell? ⟨gb585,0,none⟩=some (.int .i64 0):=(blk_cell BK585.out 0).trans rfl
    have hfs12:=blk_frozen BK585.out 0
    have hns12_0:=NB581_585.out
    have hns12_1:=NB584_585.out
    have hms12_0:=NB585_581.out
    have hms12_1:=NB585_584.out
    have hs13:w9.cell? ⟨gb585,1,none⟩=some (.int .i64 0):=(blk_cell BK585.out 1).trans rfl
    have hfs13:=blk_frozen BK585.out 1
    have hns13_0:=NB581_585.out
    have hns13_1:=NB584_585.out
    have hms13_0:=NB585_581.out
    have hms13_1:=NB585_584.out
    refine skip_ (w1:=?_) (by rfl) rfl ?_ ?_
    rotate_left
    ·go_simp
     rfl
    refine hK.out _ _ ⟨((cell_far (p:=⟨gb585,_,none⟩) NB581_585.out _).trans (((cell_far (p:=⟨gb585,_,none⟩) NB581_585.out _).trans (hHeld.1)))),((cell_far (p:=⟨gb585,_,none⟩) NB581_585.out _).trans (((cell_far (p:=⟨gb585,_,none⟩) NB581_585.out _).trans (hHeld.2.1)))),((cell_far (p:=⟨gb585,_,none⟩) NB581_585.out _).trans (((cell_far (p:=⟨gb585,_,none⟩) NB581_585.out _).trans (hHeld.2.2.1)))),((cell_far (p:=⟨gb585,_,none⟩) NB581_585.out _).trans (((cell_far (p:=⟨gb585,_,none⟩) NB581_585.out _).trans (hHeld.2.2.2.1)))),((cell_far (p:=⟨gb585,_,none⟩) y1j_ _).trans (((cell_far (p:=⟨gb585,_,none⟩) y1j_ _).trans (hHeld.2.2.2.2.1)))),((cell_far (p:=⟨gb585,_,none⟩) y1h_ _).trans (((cell_far (p:=⟨gb585,_,none⟩) y1h_ _).trans (hHeld.2.2.2.2.2.1)))),((cell_far (p:=⟨gb585,_,none⟩) y1f_ _).trans (((cell_far (p:=⟨gb585,_,none⟩) y1f_ _).trans (hHeld.2.2.2.2.2.2.1)))),((cell_far (p:=⟨gb585,_,none⟩) y1d_ _).trans (((cell_far (p:=⟨gb585,_,none⟩) y1d_ _).trans (hHeld.2.2.2.2.2.2.2.1)))),((cell_far (p:=⟨gb585,_,none⟩) y1b_ _).trans (((cell_far (p:=⟨gb585,_,none⟩) y1b_ _).trans (hHeld.2.2.2.2.2.2.2.2.1)))),((cell_far (p:=⟨gb585,_,none⟩) y19_ _).trans (((cell_far (p:=⟨gb585,_,none⟩) y19_ _).trans (hHeld.2.2.2.2.2.2.2.2.2.1)))),((cell_far (p:=⟨gb585,_,none⟩) y17_ _).trans (((cell_far (p:=⟨gb585,_,none⟩) y17_ _).trans (hHeld.2.2.2.2.2.2.2.2.2.2.1)))),((cell_far (p:=⟨gb585,_,none⟩) y15_ _).trans (((cell_far (p:=⟨gb585,_,none⟩) y15_ _).trans (hHeld.2.2.2.2.2.2.2.2.2.2.2))))⟩ (fun hHeld=>?_)
    clear hK K
    refine done_ (done_of HT_.out (by kernel_rfl)) ?_
    try go_wp2
    have n0_:Aside0 (((((w9.setCell ⟨gb584,0,none⟩ (.int .i64 ((rd_T83 l0_0 0).f0.f0))).setCell ⟨gb584,1,none⟩ (.int .i64 ((rd_T83 l0_0 0).f0.f1))).setCell ⟨gb585,0,none⟩ (.int .i64 ((rd_T83 l0_0 1).f0.f0))).setCell ⟨gb585,1,none⟩ (.int .i64 ((rd_T83 l0_0 1).f0.f1))).heap[gb581]?=some (.cells #[.slice (some ad582) l0_0.length c0_0,.int .i64 a0_1,.int .i64 a0_2,.int .i64 a0_3] 28 (0,0))):=⟨by (with_reducible repeat (first|refine blk_drewN ?_ _|refine blk_drew ?_|refine blk_alloc ?_ _));refine blk_far ?_ NB581_585.out _;(with_reducible repeat (first|refine blk_drewN ?_ _|refine blk_drew ?_|refine blk_alloc ?_ _));refine blk_far ?_ NB581_585.out _;(with_reducible repeat (first|refine blk_drewN ?_ _|refine blk_drew ?_|refine blk_alloc ?_ _));refine blk_far ?_ NB581_584.out _;(with_reducible repeat (first|refine blk_drewN ?_ _|refine blk_drew ?_|refine blk_alloc ?_ _));refine blk_far ?_ NB581_584.out _;(with_reducible repeat (first|refine blk_drewN ?_ _|refine blk_drew ?_|refine blk_alloc ?_ _));exact BK581.out⟩
    have n1_:Aside0 (((((w9.setCell ⟨gb584,0,none⟩ (.int .i64 ((rd_T83 l0_0 0).f0.f0))).setCell ⟨gb584,1,none⟩ (.int .i64 ((rd_T83 l0_0 0).f0.f1))).setCell ⟨gb585,0,none⟩ (.int .i64 ((rd_T83 l0_0 1).f0.f0))).setCell ⟨gb585,1,none⟩ (.int .i64 ((rd_T83 l0_0 1).f0.f1))).heap[gb584]?=some (.cells #[.int .i64 ((rd_T83 l0_0 0).f0.f0),.int .i64 ((rd_T83 l0_0 0).f0.f1)] 24 (0,0))):=⟨by (with_reducible repeat (first|refine blk_drewN ?_ _|refine blk_drew ?_|refine blk_alloc ?_ _));refine blk_far ?_ NB584_585.out _;(with_reducible repeat (first|refine blk_drewN ?_ _|refine blk_drew ?_|refine blk_alloc ?_ _));refine blk_far ?_ NB584_585.out _;(with_reducible repeat (first|refine blk_drewN ?_ _|refine blk_drew ?_|refine blk_alloc ?_ _));refine blk_put (cs:=#[.int .i64 ((rd_T83 l0_0 0).f0.f0),.int .i64 0]) ?_ 1 _ rfl;(with_reducible repeat (first|refine blk_drewN ?_ _|refine blk_drew ?_|refine blk_alloc ?_ _));refine blk_put (cs:=#[.int .i64 0,.int .i64 0]) ?_ 0 _ rfl;(with_reducible repeat (first|refine blk_drewN ?_ _|refine blk_drew ?_|refine blk_alloc ?_ _));exact BK584.out⟩
    have n2_:Aside0 (((((w9.setCell ⟨gb584,0,none⟩ (.int .i64 ((rd_T83 l0_0 0).f0.f0))).setCell ⟨gb584,1,none⟩ (.int .i64 ((rd_T83 l0_0 0).f0.f1))).setCell ⟨gb585,0,none⟩ (.int .i64 ((rd_T83 l0_0 1).f0.f0))).setCell ⟨gb585,1,none⟩ (.int .i64 ((rd_T83 l0_0 1).f0.f1))).heap[gb585]?=some (.cells #[.int .i64 ((rd_T83 l0_0 1).f0.f0),.int .i64 ((rd_T83 l0_0 1).f0.f1)] 24 (0,0))):=⟨by (with_reducible repeat (first|refine blk_drewN ?_ _|refine blk_drew ?_|refine blk_alloc ?_ _));refine blk_put (cs:=#[.int .i64 ((rd_T83 l0_0 1).f0.f0),.int .i64 0]) ?_ 1 _ rfl;(with_reducible repeat (first|refine blk_drewN ?_ _|refine blk_drew ?_|refine blk_alloc ?_ _));refine blk_put (cs:=#[.int .i64 0,.int .i64 0]) ?_ 0 _ rfl;(with_reducible repeat (first|refine blk_drewN ?_ _|refine blk_drew ?_|refine blk_alloc ?_ _));refine blk_far ?_ NB585_584.out _;(with_reducible repeat (first|refine blk_drewN ?_ _|refine blk_drew ?_|refine blk_alloc ?_ _));refine blk_far ?_ NB585_584.out _;(with_reducible repeat (first|refine blk_drewN ?_ _|refine blk_drew ?_|refine blk_alloc ?_ _));exact BK585.out⟩
    have n3_:Aside0 (Below w.heap.size w ((((w9.setCell ⟨gb584,0,none⟩ (.int .i64 ((rd_T83 l0_0 0).f0.f0))).setCell ⟨gb584,1,none⟩ (.int .i64 ((rd_T83 l0_0 0).f0.f1))).setCell ⟨gb585,0,none⟩ (.int .i64 ((rd_T83 l0_0 1).f0.f0))).setCell ⟨gb585,1,none⟩ (.int .i64 ((rd_T83 l0_0 1).f0.f1)))):=⟨y2u_⟩
    (try clear BK581);(try clear BK584);(try clear BK585);(try clear HB)
    generalize ((((w9.setCell ⟨gb584,0,none⟩ (.int .i64 ((rd_T83 l0_0 0).f0.f0))).setCell ⟨gb584,1,none⟩ (.int .i64 ((rd_T83 l0_0 0).f0.f1))).setCell ⟨gb585,0,none⟩ (.int .i64 ((rd_T83 l0_0 1).f0.f0))).setCell ⟨gb585,1,none⟩ (.int .i64 ((rd_T83 l0_0 1).f0.f1)))=w14 at n0_ n1_ n2_ n3_ ⊢
    have BK581:=n0_;have BK584:=n1_;have BK585:=n2_;have HB:=n3_;clear n0_ n1_ n2_ n3_;have n0_:=A0_ (blk_drew BK581.out);have n1_:=A0_ (blk_drew BK584.out);have n2_:=A0_ (blk_drew BK585.out);have n3_:=A0_ (below_drew1 HB.out);clear BK581;clear BK584;clear BK585;clear HB;have BK581:=n0_;have BK584:=n1_;have BK585:=n2_;have HB:=n3_;clear n0_ n1_ n2_ n3_
    refine start_ (n:=18) (S:=fun w'=>w'.cell? ⟨gb585,0,none⟩=some (.int .i64 ((rd_T83 l0_0 1).f0.f0))∧w'.cell? ⟨gb585,1,none⟩=some (.int .i64 ((rd_T83 l0_0 1).f0.f1))∧w'.cell? ⟨gb584,0,none⟩=some (.int .i64 ((rd_T83 l0_0 0).f0.f0))∧w'.cell? ⟨gb584,1,none⟩=some (.int .i64 ((rd_T83 l0_0 0).f0.f1))) (ds:=[]) #[false,false,false,false,false,false,false,false,false,false,false,false,false,false,false,false,false,false] (by kernel_rfl) rfl rfl ⟨(blk_cell BK585.out 0).trans rfl,(blk_cell BK585.out 1).trans rfl,(blk_cell BK584.out 0).trans rfl,(blk_cell BK584.out 1).trans rfl⟩ (fun hHeld=>?_);refine with_tabW sky_month.tab2 sky_month.bits2 (fun HT_ HW_=>?_)
    generalize w14.drew=w15 at BK581 BK584 BK585 HB hHeld ⊢
    refine pu_ (i:=0) (N:=some 18) ?_;refine pu_ (i:=2) (N:=some 20) ?_;refine pu_ (i:=5) (N:=some 23) ?_;refine pu_ (i:=7) (N:=some 25) ?_;refine pu_ (i:=10) (N:=some 28) ?_;refine pu_ (i:=12) (N:=some 30) ?_;refine ta_ (i:=1) (N:=some 19) ?_;refine ta_ (i:=3) (N:=some 21) ?_;refine pu_ (i:=4) (N:=some 22) ?_;refine pu_ (i:=16) (N:=some 6) ?_;refine ta_ (i:=6) (N:=some 24) ?_;refine ta_ (i:=8) (N:=some 26) ?_;refine pu_ (i:=9) (N:=some 27) ?_;refine ta_ (i:=11) (N:=some 29) ?_;refine ta_ (i:=13) (N:=some 31) ?_;refine pu_ (i:=14) (N:=some 32) ?_;refine pu_ (i:=15) (N:=some 33) ?_;refine pu_ (i:=17) (N:=some 7) ?_
    refine done_ (done_of HT_.out (by kernel_rfl)) ?_
    try go_wp2
    go_ret2
    exact ⟨y3_,y2u_⟩
  ·rw [if_neg c3] at H;exact absurd H (by simp)
 ·rw [if_neg c2] at H;exact absurd H (by simp)
end Go.Proofs.YtaidphhkhddemaaGreatDoor.PSky
end
