/- A part of the proof of a law of the layer sky. -/
import Derived.Test.YtaidphhkhddemaaGreatDoorEclipses0
section
namespace Go.Proofs.YtaidphhkhddemaaGreatDoor.PSky
open Go.RowKit Go.Proofs.YtaidphhkhddemaaGreatDoorW.PrintWords Go.Proofs.YtaidphhkhddemaaGreatDoorW.PrintLast Go.Proofs.YtaidphhkhddemaaGreatDoorW.PrintMore
attribute [local go_sem] max2_int min2_int max_two min_two max_three min_three max_four min_four
set_option linter.unusedVariables false
set_option linter.unusedSimpArgs false
def tr_Eclipses.l0:Nat→Int→Int→List (S54)→List (S51)→Int→List (S83)→Int→Int→Int→Option ((List (S54)))
 |0,_,_,_,_,_,_,_,_,_=>none
 |k+1,x1,x2,x11,x12,x13,x278000,x278001,x278002,x278003=>if x13<(x12.length:Int) then (if 0≤x13 then ((tr_Far.f x278000 x278001 x278002 x278003 ((rd_T51 x12 x13).f0)).bind fun t282=>(if (rd_T51 x12 x13).f1=true then (if t282≤x2 then (if x11.length<5864062014805 then (tr_Eclipses.l0 k x1 x2 (x11 ++ [(⟨(rd_T51 x12 x13).f0,(rd_T51 x12 x13).f1,t282⟩:S54)]) x12 (wrap64 (x13+1)) x278000 x278001 x278002 x278003) else (none)) else (tr_Eclipses.l0 k x1 x2 x11 x12 (wrap64 (x13+1)) x278000 x278001 x278002 x278003)) else (if t282≤x1 then (if x11.length<5864062014805 then (tr_Eclipses.l0 k x1 x2 (x11 ++ [(⟨(rd_T51 x12 x13).f0,(rd_T51 x12 x13).f1,t282⟩:S54)]) x12 (wrap64 (x13+1)) x278000 x278001 x278002 x278003) else (none)) else (tr_Eclipses.l0 k x1 x2 x11 x12 (wrap64 (x13+1)) x278000 x278001 x278002 x278003)))) else (none)) else (some x11)
def tr_Eclipses.f (k:Nat) (l0_0:List (S83)) (a0_1:Int) (a0_2:Int) (a0_3:Int) (a1:Int) (a2:Int) (a3:Int) (a4:Int):Option ((List (S54))):=(tr_Moons.f k l0_0 a0_1 a0_2 a0_3 a3 a4).bind fun t278=>(tr_Eclipses.l0 k a1 a2 ([]:List (S54)) t278 0 l0_0 a0_1 a0_2 a0_3)
def tr_Eclipses.T6:Bool × List (List Nat × List Nat):=(true,[([],[]),([],[]),([],[]),([1,2],[1,2]),([3],[3]),([4],[4]),([0,5],[0,5]),([],[]),([6,6,0,1,2,3,4,5,6],[6]),([7,8,0,1,2,3,4,5,6,7,8],[7])])
def tr_Eclipses.B6:List Nat:=[0,0,0,6,14,30,63,0,127,511]
theorem tr_Eclipses.tab6:rtab .any (opsOf Tryz.f20 6)=tr_Eclipses.T6:=by kernel_rfl
theorem tr_Eclipses.bits6:waitsOk tr_Eclipses.T6.2 tr_Eclipses.B6=true:=by kernel_rfl
def tr_Eclipses.T10:Bool × List (List Nat × List Nat):=(true,[([],[]),([],[]),([],[]),([1,2],[1,2]),([3],[3]),([4],[4]),([],[]),([],[]),([6,7],[6,7]),([8],[8]),([9],[9]),([],[]),([5,10,11],[5,10,11]),([12],[12]),([0,13],[0,13]),([14,14,0,1,2,3,4,5,6,7,8,9,10,11,12,13,14],[0,14])])
def tr_Eclipses.B10:List Nat:=[0,0,0,6,14,30,0,0,192,448,960,0,4094,8190,16383,32767]
theorem tr_Eclipses.tab10:rtab .any (opsOf Tryz.f20 10)=tr_Eclipses.T10:=by kernel_rfl
theorem tr_Eclipses.bits10:waitsOk tr_Eclipses.T10.2 tr_Eclipses.B10=true:=by kernel_rfl
set_option maxHeartbeats 8000000 in
set_option maxRecDepth 100000 in
theorem tr_Eclipses.calls (k:Nat) (A0_0:Option Addr) (c0_0:Nat) (l0_0:List (S83)) (a0_1:Int) (a0_2:Int) (a0_3:Int) (a1:Int) (a2:Int) (a3:Int) (a4:Int) (r:List (S54)) (w:World) (hr0_0:Kd.C k83 w A0_0 l0_0.length l0_0) (hc0_0:l0_0.length≤c0_0) (h:tr_Eclipses.f k l0_0 a0_1 a0_2 a0_3 a1 a2 a3 a4=some r):
  Calls Tryz.prog 20 #[.agg #[.slice A0_0 l0_0.length c0_0,.int .i64 a0_1,.int .i64 a0_2,.int .i64 a0_3],.int .i64 a1,.int .i64 a2,.int .i64 a3,.int .i64 a4] w fun e w'=>∃ v0_:Value,e=.returned (v0_)∧Kd.R k54 54 w' w.heap.size (fun _=>True) v0_ r∧Below w.heap.size w w':=by
 have hu28:=Tryz.underlying28
 have hu54:=Tryz.underlying54
 have HR0_0:=A0_ hr0_0;have HC0_0:=A0_ hc0_0;clear hr0_0 hc0_0
 have HB:=A0_ (Below.refl w.heap.size w)
 have H:((tr_Moons.f k l0_0 a0_1 a0_2 a0_3 a3 a4).bind fun t278=>(tr_Eclipses.l0 k a1 a2 ([]:List (S54)) t278 0 l0_0 a0_1 a0_2 a0_3))=some r:=h
 clear h;replace H:=Option.bind_eq_some_iff.mp H;obtain ⟨t278,A60,H⟩:=H
 replace H:(tr_Eclipses.l0 k a1 a2 ([]:List (S54)) t278 0 l0_0 a0_1 a0_2 a0_3)=some r:=H
 have A6:=A0_ A60;clear A60
 have H':=A0_ H
 clear H
 go_enter Tryz.func20,Tryz.ntmps20
 go_wp2_with (first|((with_reducible refine gate_dst (N:=5) rfl ?_);refine box_event ?hg (N:=5) ?hd (cs:=#[.slice A0_0 l0_0.length c0_0,.int .i64 a0_1,.int .i64 a0_2,.int .i64 a0_3]) (t:=28) ?hr ?_;(case hd=>rfl);(case hg=>rfl);(case hr=>first|(go_simp;done)|(go_simp;rfl));intro gb277 hg w7 hbox hb;have n0_:=A0_ (below_step y0_ hb);have n1_:=A0_ (hbox);have n2_:=A0_ ((by rw [hg];exact (below_size y0_):w.heap.size≤gb277));have n3_:=A0_ ((by rw [hg];exact (below_size y0_):w.heap.size≤gb277));clear HB;have HB:=n0_;have BK277:=n1_;have GW277:=n2_;have GE277:=n3_;clear n0_ n1_ n2_ n3_;clear hb hbox hg;obtain ⟨hcz8_0,hcz8_1,hcz8_2,hcz8_3,hfz8_0,hfz8_1,hfz8_2,hfz8_3⟩:=bq4_ BK277.out)|((with_reducible refine gate_callee (f:=16) rfl ?_);refine goesL_ (some 19) rfl rfl Tryz.func16 (by kernel_rfl) rfl #[.agg #[.slice A0_0 l0_0.length c0_0,.int .i64 a0_1,.int .i64 a0_2,.int .i64 a0_3],.int .i64 a3,.int .i64 a4] rfl y1_ ?_;(with_reducible refine (tr_Moons.calls k _ _ l0_0 a0_1 a0_2 a0_3 a3 a4 t278 _ ?side1 ?side2 A6.out).mono ?_);(case side1=>repeat (first|exact (Kd.C_below HR0_0.out HB.out)|(with_reducible refine Kd.C_alloc ?_ _)|(with_reducible refine Kd.C_drewN ?_ _)|(with_reducible refine Kd.C_drew ?_)));(case side2=>exact HC0_0.out);rintro e w9 ⟨v279,rfl,ho0,hb⟩;refine ⟨_,rfl,?_⟩;have n0_:=A0_ (Kd.R_lower ho0 (below_size yp_));have n1_:=A0_ (blk_below (g:=gb277) (o:=.cells #[.slice A0_0 l0_0.length c0_0,.int .i64 a0_1,.int .i64 a0_2,.int .i64 a0_3] 28 (0,0)) (bd_ BK277.out) hb);have n2_:=A0_ (below_step yp_ hb);clear BK277;clear HB;have HO280:=n0_;have BK277:=n1_;have HB:=n2_;clear n0_ n1_ n2_;(try clear hb);(try clear hb2);(try clear hk);(try clear hi);(try clear ho0)))
 go_loopg [11,13] k (fun kq v11 v13 w'=>∃ (x11_1:List (S54)) (x13_1:Int),v13=.int .i64 x13_1∧Aside0 (tr_Eclipses.l0 kq a1 a2 x11_1 t278 x13_1 l0_0 a0_1 a0_2 a0_3=some r)∧Aside0 (kq≤k)∧Aside0 (Kd.R k54 54 w' w.heap.size (fun _=>True) v11 x11_1)∧Aside0 (Kd.R k51 51 w' w.heap.size (fun _=>True) v279 t278)∧Aside0 (w'.heap[gb277]?=some (.cells #[(.slice A0_0 l0_0.length c0_0),.int .i64 a0_1,.int .i64 a0_2,.int .i64 a0_3] 28 (0,0)))∧Aside0 (Below w.heap.size w w'))
 case atStart=>exact ⟨(([]:List (S54))),(0),y4_,H',⟨Nat.le_refl _⟩,⟨by first|exact Kd.R_nil _ _ _ _ _|exact Kd.N_nil _ _ _ _ _|exact Kd.V_nil _ _ _ _ _|exact Kd.Q_nil _ _ _ _ _|exact Kd.S_nil _ _ _ _ _⟩,⟨by (with_reducible repeat (first|apply Kd.R_alloc|apply Kd.R_drewN|apply Kd.R_drew));exact HO280.out⟩,⟨by (with_reducible repeat (first|refine blk_drewN ?_ _|refine blk_drew ?_|refine blk_alloc ?_ _));exact BK277.out⟩,⟨yp_⟩⟩
 case round=>
  clear H'
  (try clear c1);(try clear c2);(try clear p2);(try clear hcz8_0);(try clear hcz8_1);(try clear hcz8_2);(try clear hcz8_3);(try clear hfz8_0);(try clear hfz8_1);(try clear hfz8_2);(try clear hfz8_3)
  obtain ⟨x11_1,x13_1,rfl,HA,HK1,HO_11,HO_12,BK277,HB⟩:=hrel
  cases gk with
  |zero=>exact absurd HA.out (by simp [tr_Eclipses.l0])
  |succ k1=>
   have H:=HA.out
   clear HA
   simp only [tr_Eclipses.l0] at H
   by_cases c10:x13_1<(t278.length:Int)
   ·rw [if_pos c10] at H;have c10b0:decide (x13_1<(t278.length:Int))=true:=decide_eq_true c10;clear c10
    by_cases c11:0≤x13_1
    ·rw [if_pos c11] at H;have c11b0:decide (0≤x13_1)=true:=decide_eq_true c11;clear c11;replace H:=Option.bind_eq_some_iff.mp H;obtain ⟨t282,A120,H⟩:=H
     replace H:(if (rd_T51 t278 x13_1).f1=true then (if t282≤a2 then (if x11_1.length<5864062014805 then (tr_Eclipses.l0 k1 a1 a2 (x11_1 ++ [(⟨(rd_T51 t278 x13_1).f0,(rd_T51 t278 x13_1).f1,t282⟩:S54)]) t278 (wrap64 (x13_1+1)) l0_0 a0_1 a0_2 a0_3) else (none)) else (tr_Eclipses.l0 k1 a1 a2 x11_1 t278 (wrap64 (x13_1+1)) l0_0 a0_1 a0_2 a0_3)) else (if t282≤a1 then (if x11_1.length<5864062014805 then (tr_Eclipses.l0 k1 a1 a2 (x11_1 ++ [(⟨(rd_T51 t278 x13_1).f0,(rd_T51 t278 x13_1).f1,t282⟩:S54)]) t278 (wrap64 (x13_1+1)) l0_0 a0_1 a0_2 a0_3) else (none)) else (tr_Eclipses.l0 k1 a1 a2 x11_1 t278 (wrap64 (x13_1+1)) l0_0 a0_1 a0_2 a0_3)))=some r:=H
     have A12:=A0_ A120;clear A120
     obtain ⟨bq13,hbq13⟩:∃ b_:Bool,b_=((rd_T51 t278 x13_1).f1):=⟨_,rfl⟩
     replace H:(if bq13=true then (if t282≤a2 then (if x11_1.length<5864062014805 then (tr_Eclipses.l0 k1 a1 a2 (x11_1 ++ [(⟨(rd_T51 t278 x13_1).f0,bq13,t282⟩:S54)]) t278 (wrap64 (x13_1+1)) l0_0 a0_1 a0_2 a0_3) else (none)) else (tr_Eclipses.l0 k1 a1 a2 x11_1 t278 (wrap64 (x13_1+1)) l0_0 a0_1 a0_2 a0_3)) else (if t282≤a1 then (if x11_1.length<5864062014805 then (tr_Eclipses.l0 k1 a1 a2 (x11_1 ++ [(⟨(rd_T51 t278 x13_1).f0,bq13,t282⟩:S54)]) t278 (wrap64 (x13_1+1)) l0_0 a0_1 a0_2 a0_3) else (none)) else (tr_Eclipses.l0 k1 a1 a2 x11_1 t278 (wrap64 (x13_1+1)) l0_0 a0_1 a0_2 a0_3)))=some r:=by rw [← hbq13] at H;exact H
     have Nbq13:=A0_ hbq13;clear hbq13
     by_cases c14:bq13=true
     ·subst c14
      have H1:(if t282≤a2 then (if x11_1.length<5864062014805 then (tr_Eclipses.l0 k1 a1 a2 (x11_1 ++ [(⟨(rd_T51 t278 x13_1).f0,true,t282⟩:S54)]) t278 (wrap64 (x13_1+1)) l0_0 a0_1 a0_2 a0_3) else (none)) else (tr_Eclipses.l0 k1 a1 a2 x11_1 t278 (wrap64 (x13_1+1)) l0_0 a0_1 a0_2 a0_3))=some r:=by rw [if_pos rfl] at H;exact H
      clear H;have H:=H1;clear H1
      by_cases c15:t282≤a2
      ·rw [if_pos c15] at H;have c15b0:decide (t282≤a2)=true:=decide_eq_true c15;clear c15
       by_cases c16:x11_1.length<5864062014805
       ·rw [if_pos c16] at H;have LMc16:=A0_ c16;clear c16
        obtain ⟨y286,hy286⟩:∃ y_:List (S54),y_=(x11_1 ++ [(⟨(rd_T51 t278 x13_1).f0,true,t282⟩:S54)]):=⟨_,rfl⟩
        replace H:(tr_Eclipses.l0 k1 a1 a2 y286 t278 (wrap64 (x13_1+1)) l0_0 a0_1 a0_2 a0_3)=some r:=by first|(rw [hy286];with_reducible exact H)|(have H2_:=(Option.bind_some _ _).symm.trans H;rw [hy286];with_reducible exact H2_)|(have H2_:=(Option.bind_some _ _).symm.trans H;with_reducible exact H2_)|with_reducible exact H|(rw [hy286];exact H)|exact H
        have Ny286:=A0_ hy286;clear hy286
        have H':=A0_ H
        clear H
        obtain ⟨Ao17,co17,eo17⟩:=Kd.R_slice HO_12.out
        subst eo17
        try go_wp2
        have n0_:=A0_ (Kd.R_drew HO_11.out);have n1_:=A0_ (Kd.R_drew HO_12.out);have n2_:=A0_ (blk_drew BK277.out);have n3_:=A0_ (below_drew1 HB.out);clear HO_11;clear HO_12;clear BK277;clear HB;have HO_11:=n0_;have HO_12:=n1_;have BK277:=n2_;have HB:=n3_;clear n0_ n1_ n2_ n3_
        have p281:0≤(x13_1:Int):=of_decide_eq_true y2_
        have q281:x13_1<(t278.length:Int):=of_decide_eq_true y2_
        obtain ⟨ad281,e281,hx281_0,hx281_1⟩:=at_T51 (Kd.R_reads' HO_12.out).2.2 x13_1 p281 q281
        (try rw [← Nbq13.out] at hx281_1)
        cases e281
        replace p281:=eq_true p281
        replace q281:=eq_true q281
        refine start_ (n:=10) (S:=fun w'=>w'.cell? ⟨gb277,0,none⟩=some (.slice A0_0 l0_0.length c0_0)∧w'.cell? ⟨gb277,1,none⟩=some (.int .i64 a0_1)∧w'.cell? ⟨gb277,2,none⟩=some (.int .i64 a0_2)∧w'.cell? ⟨gb277,3,none⟩=some (.int .i64 a0_3)∧w'.cell? (ad281.add ((x13_1).toNat*2))=some (.int .i64 ((rd_T51 t278 x13_1).f0))∧w'.cell? ⟨(ad281.add ((x13_1).toNat*2)).block,(ad281.add ((x13_1).toNat*2)).off+1,none⟩=some (.bool true)) (ds:=[]) #[false,false,false,false,false,false,false,false,false,false] (by kernel_rfl) rfl rfl ⟨(blk_cell BK277.out 0).trans rfl,(blk_cell BK277.out 1).trans rfl,(blk_cell BK277.out 2).trans rfl,(blk_cell BK277.out 3).trans rfl,hx281_0,hx281_1⟩ (fun hHeld=>?_);refine with_tabW tr_Eclipses.tab6 tr_Eclipses.bits6 (fun HT_ HW_=>?_)
        generalize wr.drew=w18 at HO_11 HO_12 BK277 HB hx281_0 hx281_1 hHeld ⊢
        refine pu_ (i:=1) (N:=some 27) ?_;refine pu_ (i:=2) (N:=some 28) ?_;refine pu_ (i:=3) (N:=some 29) ?_;refine pu_ (i:=4) (N:=some 30) ?_;refine pu_ (i:=7) (N:=some 33) ?_;refine ta_ (i:=0) (N:=some 26) ?_;refine ta_ (i:=5) (N:=some 31) ?_
        refine one_ (i:=6) (N:=some 32) #[true,true,true,true,true,true,true,true,false,false] rfl rfl (one_of HT_.out (by kernel_rfl)) (by decide) (fun K hK=>?_)
        refine goes_ Tryz.func60 (by kernel_rfl) rfl #[.agg #[.slice A0_0 l0_0.length c0_0,.int .i64 a0_1,.int .i64 a0_2,.int .i64 a0_3],.int .i64 ((rd_T51 t278 x13_1).f0)] (by rfl) rfl rfl y1_ ?_
        with_reducible refine (tr_Far.calls _ _ l0_0 a0_1 a0_2 a0_3 ((rd_T51 t278 x13_1).f0) t282 _ ?side1 ?side2 A12.out).mono ?_
        (case side1=>repeat (first|exact (Kd.C_below HR0_0.out HB.out)|(with_reducible refine Kd.C_alloc ?_ _)|(with_reducible refine Kd.C_drewN ?_ _)|(with_reducible refine Kd.C_drew ?_)))
        (case side2=>exact HC0_0.out)
        rintro e w19 ⟨rfl,hb⟩
        have HS4_:=(hb.cell (World.block_lt_of_cell? _ _ (hHeld.2.2.2.2.1))).trans (hHeld.2.2.2.2.1)
        have HS5_:=(hb.cell (World.block_lt_of_cell? _ _ (hHeld.2.2.2.2.2))).trans (hHeld.2.2.2.2.2)
        refine ⟨_,rfl,?_⟩
        have n0_:=A0_ (Kd.R_below (rd_ HO_11.out) hb);have n1_:=A0_ (Kd.R_below (rd_ HO_12.out) hb);have n2_:=A0_ (blk_below (g:=gb277) (o:=.cells #[.slice A0_0 l0_0.length c0_0,.int .i64 a0_1,.int .i64 a0_2,.int .i64 a0_3] 28 (0,0)) (bd_ BK277.out) hb);have n3_:=A0_ (below_step yp_ hb);clear HO_11;clear HO_12;clear BK277;clear HB;have HO_11:=n0_;have HO_12:=n1_;have BK277:=n2_;have HB:=n3_;clear n0_ n1_ n2_ n3_;(try clear hb);(try clear hb2);(try clear hk);(try clear hi)
        refine hK.out _ _ ⟨(blk_cell BK277.out 0).trans rfl,(blk_cell BK277.out 1).trans rfl,(blk_cell BK277.out 2).trans rfl,(blk_cell BK277.out 3).trans rfl,HS4_,HS5_⟩ (fun hHeld=>?_)
        clear hK K
        refine norm_ (a':=?_) ?_ ?_
        rotate_left
        ·show Act.put _ (some 32) _=_
         simp only [Act.put,List.setIfInBounds_toArray,List.set_cons_zero,List.set_cons_succ,i64_w,i32_w]
         rfl
        refine pu_ (i:=8) (N:=some 14) ?_;refine pu_ (i:=9) (N:=some 15) ?_
        refine done_ (done_of HT_.out (by kernel_rfl)) ?_
        have p283:0≤(x13_1:Int):=of_decide_eq_true y2_
        have q283:x13_1<(t278.length:Int):=of_decide_eq_true y2_
        obtain ⟨ad283,e283,hx283_0,hx283_1⟩:=at_T51 (Kd.R_reads' HO_12.out).2.2 x13_1 p283 q283
        (try rw [← Nbq13.out] at hx283_1)
        obtain rfl:ad281=ad283:=(by injection e283)
        replace p283:=eq_true p283
        replace q283:=eq_true q283
        try go_wp2
        have n0_:=A0_ (Kd.R_drew HO_11.out);have n1_:=A0_ (Kd.R_drew HO_12.out);have n2_:=A0_ (blk_drew BK277.out);have n3_:=A0_ (below_drew1 HB.out);clear HO_11;clear HO_12;clear BK277;clear HB;have HO_11:=n0_;have HO_12:=n1_;have BK277:=n2_;have HB:=n3_;clear n0_ n1_ n2_ n3_
        have p284:0≤(x13_1:Int):=of_decide_eq_true y2_
        have q284:x13_1<(t278.length:Int):=of_decide_eq_true y2_
        obtain ⟨ad284,e284,hx284_0,hx284_1⟩:=at_T51 (Kd.R_reads' HO_12.out).2.2 x13_1 p284 q284
        (try rw [← Nbq13.out] at hx284_1)
        obtain rfl:ad281=ad284:=(by injection e284)
        replace p284:=eq_true p284
        replace q284:=eq_true q284
        have p285:0≤(x13_1:Int):=of_decide_eq_true y2_
        have q285:x13_1<(t278.length:Int):=of_decide_eq_true y2_
        obtain ⟨ad285,e285,hx285_0,hx285_1⟩:=at_T51 (Kd.R_reads' HO_12.out).2.2 x13_1 p285 q285
        (try rw [← Nbq13.out] at hx285_1)
        obtain rfl:ad281=ad285:=(by injection e285)
        replace p285:=eq_true p285
        replace q285:=eq_true q285
        refine start_ (n:=16) (S:=fun w'=>w'.cell? (ad281.add ((x13_1).toNat*2))=some (.int .i64 ((rd_T51 t278 x13_1).f0))∧w'.cell? ⟨(ad281.add ((x13_1).toNat*2)).block,(ad281.add ((x13_1).toNat*2)).off+1,none⟩=some (.bool (true))∧w'.cell? (ad281.add ((x13_1).toNat*2))=some (.int .i64 ((rd_T51 t278 x13_1).f0))∧w'.cell? ⟨(ad281.add ((x13_1).toNat*2)).block,(ad281.add ((x13_1).toNat*2)).off+1,none⟩=some (.bool (true))) (ds:=[13,14]) #[false,false,false,false,false,false,false,false,false,false,false,false,false,false,false,false] (by kernel_rfl) rfl rfl ⟨hx284_0,hx284_1,hx285_0,hx285_1⟩ (fun hHeld=>?_);refine with_tabW tr_Eclipses.tab10 tr_Eclipses.bits10 (fun HT_ HW_=>?_)
        generalize w19.drew=w20 at HO_11 HO_12 BK277 HB hx284_0 hx284_1 hx285_0 hx285_1 hHeld ⊢
        refine pu_ (i:=0) (N:=some 43) ?_;refine pu_ (i:=1) (N:=some 44) ?_;refine pu_ (i:=2) (N:=some 45) ?_;refine pu_ (i:=3) (N:=some 46) ?_;refine pu_ (i:=4) (N:=some 47) ?_;refine pu_ (i:=6) (N:=some 49) ?_;refine pu_ (i:=7) (N:=some 50) ?_;refine pu_ (i:=8) (N:=some 51) ?_;refine pu_ (i:=9) (N:=some 52) ?_;refine pu_ (i:=11) (N:=some 54) ?_;refine ta_ (i:=5) (N:=some 48) ?_;refine ta_ (i:=10) (N:=some 53) ?_;refine pu_ (i:=12) (N:=some 55) ?_
        refine last_ (i:=13) (N:=some 56) #[true,true,true,true,true,true,true,true,true,true,true,true,true,true,false,false] rfl rfl (one_of HT_.out (by kernel_rfl)) (by decide) (fun K hK=>?_)
        refine value_ (w1:=?_) (v:=?_) (by rfl) rfl ?_ ?_
        rotate_left 2
        ·go_simp
         constructor
         ·rfl
         ·rfl
        refine hK.out _ _ ?_
        clear hK K
        refine norm_ (a':=?_) ?_ ?_
        rotate_left
        ·show Act.put _ (some 56) _=_
         simp only [Act.put,List.setIfInBounds_toArray,List.set_cons_zero,List.set_cons_succ,i64_w,i32_w]
         rfl
        refine last_ (i:=14) (N:=some 57) #[true,true,true,true,true,true,true,true,true,true,true,true,true,true,true,false] rfl rfl (one_of HT_.out (by kernel_rfl)) (by decide) (fun K hK=>?_)
        refine Kd.R_append_step k54 (w0:=w) w.heap.size (by rfl) (.tmp 43) (.tmp 56) 39 54 (.agg #[(.int .i64 0),(.bool false),(.int .i64 0)]) 24 rfl Tryz.underlying39 info54 rfl (by decide) (by omega) u11 x11_1 (⟨(rd_T51 t278 x13_1).f0,true,t282⟩:S54) [.int .i64 ((rd_T51 t278 x13_1).f0),.bool true,.int .i64 t282] (fun _=>True) (fun _=>False) rfl rfl ?aP (fun _ hk=>hk.elim) ?aF ?aO ?aB ?aS ?aL ?_
        (case aP=>exact k54_mkM _ _ _ (⟨(rd_T51 t278 x13_1).f0,true,t282⟩:S54))
        (case aB=>exact yp_)
        (case aF=>exact (fun _ _=>trivial))
        (case aO=>exact (rd_ HO_11.out))
        (case aS=>exact (below_size yp_))
        (case aL=>have:=LMc16.out;omega)
        intro v287 w21 ho hb hg hat
        rw [← Ny286.out] at ho
        have n0_:=A0_ (Kd.R_over' (rd_ HO_12.out) (Kd.R_typed (rd_ HO_11.out)) (by decide) hg);have n1_:=A0_ (blk_grown (g:=gb277) (o:=.cells #[.slice A0_0 l0_0.length c0_0,.int .i64 a0_1,.int .i64 a0_2,.int .i64 a0_3] 28 (0,0)) (bd_ BK277.out) hg (Kd.R_ne HO_11.out BK277.out (by decide)));have n2_:=A0_ (hb);have n3_:=A0_ (ho);clear HO_12;clear BK277;clear HB;clear HO_11;have HO_12:=n0_;have BK277:=n1_;have HB:=n2_;have HO288:=n3_;clear n0_ n1_ n2_ n3_;clear ho hb hg hat
        refine hK.out _ _ ?_
        clear hK K
        refine norm_ (a':=?_) ?_ ?_
        rotate_left
        ·show Act.put _ (some 57) _=_
         simp only [Act.put,List.setIfInBounds_toArray,List.set_cons_zero,List.set_cons_succ,i64_w,i32_w]
         rfl
        refine pu_ (i:=15) (N:=some 11) ?_
        refine done_ (done_of HT_.out (by kernel_rfl)) ?_
        try go_wp2
        go_roundg k1
        case measure=>have:=HK1.out;omega
        case rel=>exact ⟨(y286),(wrap64 (x13_1+1)),y4_,H',⟨by have:=HK1.out;omega⟩,⟨by (with_reducible repeat (first|apply Kd.R_alloc|apply Kd.R_drewN|apply Kd.R_drew));exact HO288.out⟩,⟨by (with_reducible repeat (first|apply Kd.R_alloc|apply Kd.R_drewN|apply Kd.R_drew));exact HO_12.out⟩,⟨by (with_reducible repeat (first|refine blk_drewN ?_ _|refine blk_drew ?_|refine blk_alloc ?_ _));exact BK277.out⟩,⟨yp_⟩⟩
       ·rw [if_neg c16] at H;exact absurd H (by simp)
      ·rw [if_neg c15] at H;have c15b0:decide (t282≤a2)=false:=decide_eq_false c15;clear c15
       have H':=A0_ H
       clear H
       obtain ⟨Ao22,co22,eo22⟩:=Kd.R_slice HO_12.out
       subst eo22
       try go_wp2
       have n0_:=A0_ (Kd.R_drew HO_11.out);have n1_:=A0_ (Kd.R_drew HO_12.out);have n2_:=A0_ (blk_drew BK277.out);have n3_:=A0_ (below_drew1 HB.out);clear HO_11;clear HO_12;clear BK277;clear HB;have HO_11:=n0_;have HO_12:=n1_;have BK277:=n2_;have HB:=n3_;clear n0_ n1_ n2_ n3_
       have p281:0≤(x13_1:Int):=of_decide_eq_true y2_
       have q281:x13_1<(t278.length:Int):=of_decide_eq_true y2_
       obtain ⟨ad281,e281,hx281_0,hx281_1⟩:=at_T51 (Kd.R_reads' HO_12.out).2.2 x13_1 p281 q281
       (try rw [← Nbq13.out] at hx281_1)
       cases e281
       replace p281:=eq_true p281
       replace q281:=eq_true q281
       refine start_ (n:=10) (S:=fun w'=>w'.cell? ⟨gb277,0,none⟩=some (.slice A0_0 l0_0.length c0_0)∧w'.cell? ⟨gb277,1,none⟩=some (.int .i64 a0_1)∧w'.cell? ⟨gb277,2,none⟩=some (.int .i64 a0_2)∧w'.cell? ⟨gb277,3,none⟩=some (.int .i64 a0_3)∧w'.cell? (ad281.add ((x13_1).toNat*2))=some (.int .i64 ((rd_T51 t278 x13_1).f0))∧w'.cell? ⟨(ad281.add ((x13_1).toNat*2)).block,(ad281.add ((x13_1).toNat*2)).off+1,none⟩=some (.bool true)) (ds:=[]) #[false,false,false,false,false,false,false,false,false,false] (by kernel_rfl) rfl rfl ⟨(blk_cell BK277.out 0).trans rfl,(blk_cell BK277.out 1).trans rfl,(blk_cell BK277.out 2).trans rfl,(blk_cell BK277.out 3).trans rfl,hx281_0,hx281_1⟩ (fun hHeld=>?_);refine with_tabW tr_Eclipses.tab6 tr_Eclipses.bits6 (fun HT_ HW_=>?_)
       generalize wr.drew=w23 at HO_11 HO_12 BK277 HB hx281_0 hx281_1 hHeld ⊢
       refine pu_ (i:=1) (N:=some 27) ?_;refine pu_ (i:=2) (N:=some 28) ?_;refine pu_ (i:=3) (N:=some 29) ?_;refine pu_ (i:=4) (N:=some 30) ?_;refine pu_ (i:=7) (N:=some 33) ?_;refine ta_ (i:=0) (N:=some 26) ?_;refine ta_ (i:=5) (N:=some 31) ?_
       refine one_ (i:=6) (N:=some 32) #[true,true,true,true,true,true,true,true,false,false] rfl rfl (one_of HT_.out (by kernel_rfl)) (by decide) (fun K hK=>?_)
       refine goes_ Tryz.func60 (by kernel_rfl) rfl #[.agg #[.slice A0_0 l0_0.length c0_0,.int .i64 a0_1,.int .i64 a0_2,.int .i64 a0_3],.int .i64 ((rd_T51 t278 x13_1).f0)] (by rfl) rfl rfl y1_ ?_
       with_reducible refine (tr_Far.calls _ _ l0_0 a0_1 a0_2 a0_3 ((rd_T51 t278 x13_1).f0) t282 _ ?side1 ?side2 A12.out).mono ?_
       (case side1=>repeat (first|exact (Kd.C_below HR0_0.out HB.out)|(with_reducible refine Kd.C_alloc ?_ _)|(with_reducible refine Kd.C_drewN ?_ _)|(with_reducible refine Kd.C_drew ?_)))
       (case side2=>exact HC0_0.out)
       rintro e w24 ⟨rfl,hb⟩
       have HS4_:=(hb.cell (World.block_lt_of_cell? _ _ (hHeld.2.2.2.2.1))).trans (hHeld.2.2.2.2.1)
       have HS5_:=(hb.cell (World.block_lt_of_cell? _ _ (hHeld.2.2.2.2.2))).trans (hHeld.2.2.2.2.2)
       refine ⟨_,rfl,?_⟩
       have n0_:=A0_ (Kd.R_below (rd_ HO_11.out) hb);have n1_:=A0_ (Kd.R_below (rd_ HO_12.out) hb);have n2_:=A0_ (blk_below (g:=gb277) (o:=.cells #[.slice A0_0 l0_0.length c0_0,.int .i64 a0_1,.int .i64 a0_2,.int .i64 a0_3] 28 (0,0)) (bd_ BK277.out) hb);have n3_:=A0_ (below_step yp_ hb);clear HO_11;clear HO_12;clear BK277;clear HB;have HO_11:=n0_;have HO_12:=n1_;have BK277:=n2_;have HB:=n3_;clear n0_ n1_ n2_ n3_;(try clear hb);(try clear hb2);(try clear hk);(try clear hi)
       refine hK.out _ _ ⟨(blk_cell BK277.out 0).trans rfl,(blk_cell BK277.out 1).trans rfl,(blk_cell BK277.out 2).trans rfl,(blk_cell BK277.out 3).trans rfl,HS4_,HS5_⟩ (fun hHeld=>?_)
       clear hK K
       refine norm_ (a':=?_) ?_ ?_
       rotate_left
       ·show Act.put _ (some 32) _=_
        simp only [Act.put,List.setIfInBounds_toArray,List.set_cons_zero,List.set_cons_succ,i64_w,i32_w]
        rfl
       refine pu_ (i:=8) (N:=some 14) ?_;refine pu_ (i:=9) (N:=some 15) ?_
       refine done_ (done_of HT_.out (by kernel_rfl)) ?_
       have p283:0≤(x13_1:Int):=of_decide_eq_true y2_
       have q283:x13_1<(t278.length:Int):=of_decide_eq_true y2_
       obtain ⟨ad283,e283,hx283_0,hx283_1⟩:=at_T51 (Kd.R_reads' HO_12.out).2.2 x13_1 p283 q283
       (try rw [← Nbq13.out] at hx283_1)
       obtain rfl:ad281=ad283:=(by injection e283)
       replace p283:=eq_true p283
       replace q283:=eq_true q283
       try go_wp2
       go_roundg k1
       case measure=>have:=HK1.out;omega
       case rel=>exact ⟨(x11_1),(wrap64 (x13_1+1)),y4_,H',⟨by have:=HK1.out;omega⟩,⟨by (with_reducible repeat (first|apply Kd.R_alloc|apply Kd.R_drewN|apply Kd.R_drew));exact HO_11.out⟩,⟨by (with_reducible repeat (first|apply Kd.R_alloc|apply Kd.R_drewN|apply Kd.R_drew));exact HO_12.out⟩,⟨by (with_reducible repeat (first|refine blk_drewN ?_ _|refine blk_drew ?_|refine blk_alloc ?_ _));exact BK277.out⟩,⟨yp_⟩⟩
     ·replace c14:=Bool.eq_false_iff.mpr c14;subst c14
      have H1:(if t282≤a1 then (if x11_1.length<5864062014805 then (tr_Eclipses.l0 k1 a1 a2 (x11_1 ++ [(⟨(rd_T51 t278 x13_1).f0,false,t282⟩:S54)]) t278 (wrap64 (x13_1+1)) l0_0 a0_1 a0_2 a0_3) else (none)) else (tr_Eclipses.l0 k1 a1 a2 x11_1 t278 (wrap64 (x13_1+1)) l0_0 a0_1 a0_2 a0_3))=some r:=by rw [if_neg (show ¬ (false=true) by decide)] at H;exact H
      clear H;have H:=H1;clear H1
      by_cases c25:t282≤a1
      ·rw [if_pos c25] at H;have c25b0:decide (t282≤a1)=true:=decide_eq_true c25;clear c25
       by_cases c26:x11_1.length<5864062014805
       ·rw [if_pos c26] at H;have LMc26:=A0_ c26;clear c26
        obtain ⟨y291,hy291⟩:∃ y_:List (S54),y_=(x11_1 ++ [(⟨(rd_T51 t278 x13_1).f0,false,t282⟩:S54)]):=⟨_,rfl⟩
        replace H:(tr_Eclipses.l0 k1 a1 a2 y291 t278 (wrap64 (x13_1+1)) l0_0 a0_1 a0_2 a0_3)=some r:=by first|(rw [hy291];with_reducible exact H)|(have H2_:=(Option.bind_some _ _).symm.trans H;rw [hy291];with_reducible exact H2_)|(have H2_:=(Option.bind_some _ _).symm.trans H;with_reducible exact H2_)|with_reducible exact H|(rw [hy291];exact H)|exact H
        have Ny291:=A0_ hy291;clear hy291
        have H':=A0_ H
        clear H
        obtain ⟨Ao27,co27,eo27⟩:=Kd.R_slice HO_12.out
        subst eo27
        try go_wp2
        have n0_:=A0_ (Kd.R_drew HO_11.out);have n1_:=A0_ (Kd.R_drew HO_12.out);have n2_:=A0_ (blk_drew BK277.out);have n3_:=A0_ (below_drew1 HB.out);clear HO_11;clear HO_12;clear BK277;clear HB;have HO_11:=n0_;have HO_12:=n1_;have BK277:=n2_;have HB:=n3_;clear n0_ n1_ n2_ n3_
        have p281:0≤(x13_1:Int):=of_decide_eq_true y2_
        have q281:x13_1<(t278.length:Int):=of_decide_eq_true y2_
        obtain ⟨ad281,e281,hx281_0,hx281_1⟩:=at_T51 (Kd.R_reads' HO_12.out).2.2 x13_1 p281 q281
        (try rw [← Nbq13.out] at hx281_1)
        cases e281
        replace p281:=eq_true p281
        replace q281:=eq_true q281
        refine start_ (n:=10) (S:=fun w'=>w'.cell? ⟨gb277,0,none⟩=some (.slice A0_0 l0_0.length c0_0)∧w'.cell? ⟨gb277,1,none⟩=some (.int .i64 a0_1)∧w'.cell? ⟨gb277,2,none⟩=some (.int .i64 a0_2)∧w'.cell? ⟨gb277,3,none⟩=some (.int .i64 a0_3)∧w'.cell? (ad281.add ((x13_1).toNat*2))=some (.int .i64 ((rd_T51 t278 x13_1).f0))∧w'.cell? ⟨(ad281.add ((x13_1).toNat*2)).block,(ad281.add ((x13_1).toNat*2)).off+1,none⟩=some (.bool false)) (ds:=[]) #[false,false,false,false,false,false,false,false,false,false] (by kernel_rfl) rfl rfl ⟨(blk_cell BK277.out 0).trans rfl,(blk_cell BK277.out 1).trans rfl,(blk_cell BK277.out 2).trans rfl,(blk_cell BK277.out 3).trans rfl,hx281_0,hx281_1⟩ (fun hHeld=>?_);refine with_tabW tr_Eclipses.tab6 tr_Eclipses.bits6 (fun HT_ HW_=>?_)
        generalize wr.drew=w28 at HO_11 HO_12 BK277 HB hx281_0 hx281_1 hHeld ⊢
        refine pu_ (i:=1) (N:=some 27) ?_;refine pu_ (i:=2) (N:=some 28) ?_;refine pu_ (i:=3) (N:=some 29) ?_;refine pu_ (i:=4) (N:=some 30) ?_;refine pu_ (i:=7) (N:=some 33) ?_;refine ta_ (i:=0) (N:=some 26) ?_;refine ta_ (i:=5) (N:=some 31) ?_
        refine one_ (i:=6) (N:=some 32) #[true,true,true,true,true,true,true,true,false,false] rfl rfl (one_of HT_.out (by kernel_rfl)) (by decide) (fun K hK=>?_)
        refine goes_ Tryz.func60 (by kernel_rfl) rfl #[.agg #[.slice A0_0 l0_0.length c0_0,.int .i64 a0_1,.int .i64 a0_2,.int .i64 a0_3],.int .i64 ((rd_T51 t278 x13_1).f0)] (by rfl) rfl rfl y1_ ?_
        with_reducible refine (tr_Far.calls _ _ l0_0 a0_1 a0_2 a0_3 ((rd_T51 t278 x13_1).f0) t282 _ ?side1 ?side2 A12.out).mono ?_
        (case side1=>repeat (first|exact (Kd.C_below HR0_0.out HB.out)|(with_reducible refine Kd.C_alloc ?_ _)|(with_reducible refine Kd.C_drewN ?_ _)|(with_reducible refine Kd.C_drew ?_)))
        (case side2=>exact HC0_0.out)
        rintro e w29 ⟨rfl,hb⟩
        have HS4_:=(hb.cell (World.block_lt_of_cell? _ _ (hHeld.2.2.2.2.1))).trans (hHeld.2.2.2.2.1)
        have HS5_:=(hb.cell (World.block_lt_of_cell? _ _ (hHeld.2.2.2.2.2))).trans (hHeld.2.2.2.2.2)
        refine ⟨_,rfl,?_⟩
        have n0_:=A0_ (Kd.R_below (rd_ HO_11.out) hb);have n1_:=A0_ (Kd.R_below (rd_ HO_12.out) hb);have n2_:=A0_ (blk_below (g:=gb277) (o:=.cells #[.slice A0_0 l0_0.length c0_0,.int .i64 a0_1,.int .i64 a0_2,.int .i64 a0_3] 28 (0,0)) (bd_ BK277.out) hb);have n3_:=A0_ (below_step yp_ hb);clear HO_11;clear HO_12;clear BK277;clear HB;have HO_11:=n0_;have HO_12:=n1_;have BK277:=n2_;have HB:=n3_;clear n0_ n1_ n2_ n3_;(try clear hb);(try clear hb2);(try clear hk);(try clear hi)
        refine hK.out _ _ ⟨(blk_cell BK277.out 0).trans rfl,(blk_cell BK277.out 1).trans rfl,(blk_cell BK277.out 2).trans rfl,(blk_cell BK277.out 3).trans rfl,HS4_,HS5_⟩ (fun hHeld=>?_)
        clear hK K
        refine norm_ (a':=?_) ?_ ?_
        rotate_left
        ·show Act.put _ (some 32) _=_
         simp only [Act.put,List.setIfInBounds_toArray,List.set_cons_zero,List.set_cons_succ,i64_w,i32_w]
         rfl
        refine pu_ (i:=8) (N:=some 14) ?_;refine pu_ (i:=9) (N:=some 15) ?_
        refine done_ (done_of HT_.out (by kernel_rfl)) ?_
        have p283:0≤(x13_1:Int):=of_decide_eq_true y2_
        have q283:x13_1<(t278.length:Int):=of_decide_eq_true y2_
        obtain ⟨ad283,e283,hx283_0,hx283_1⟩:=at_T51 (Kd.R_reads' HO_12.out).2.2 x13_1 p283 q283
        (try rw [← Nbq13.out] at hx283_1)
        obtain rfl:ad281=ad283:=(by injection e283)
        replace p283:=eq_true p283
        replace q283:=eq_true q283
        try go_wp2
        have n0_:=A0_ (Kd.R_drew HO_11.out);have n1_:=A0_ (Kd.R_drew HO_12.out);have n2_:=A0_ (blk_drew BK277.out);have n3_:=A0_ (below_drew1 HB.out);clear HO_11;clear HO_12;clear BK277;clear HB;have HO_11:=n0_;have HO_12:=n1_;have BK277:=n2_;have HB:=n3_;clear n0_ n1_ n2_ n3_
        have p289:0≤(x13_1:Int):=of_decide_eq_true y2_
        have q289:x13_1<(t278.length:Int):=of_decide_eq_true y2_
        obtain ⟨ad289,e289,hx289_0,hx289_1⟩:=at_T51 (Kd.R_reads' HO_12.out).2.2 x13_1 p289 q289
        (try rw [← Nbq13.out] at hx289_1)
        obtain rfl:ad281=ad289:=(by injection e289)
        replace p289:=eq_true p289
        replace q289:=eq_true q289
        have p290:0≤(x13_1:Int):=of_decide_eq_true y2_
        have q290:x13_1<(t278.length:Int):=of_decide_eq_true y2_
        obtain ⟨ad290,e290,hx290_0,hx290_1⟩:=at_T51 (Kd.R_reads' HO_12.out).2.2 x13_1 p290 q290
        (try rw [← Nbq13.out] at hx290_1)
        obtain rfl:ad281=ad290:=(by injection e290)
        replace p290:=eq_true p290
        replace q290:=eq_true q290
        refine start_ (n:=16) (S:=fun w'=>w'.cell? (ad281.add ((x13_1).toNat*2))=some (.int .i64 ((rd_T51 t278 x13_1).f0))∧w'.cell? ⟨(ad281.add ((x13_1).toNat*2)).block,(ad281.add ((x13_1).toNat*2)).off+1,none⟩=some (.bool (false))∧w'.cell? (ad281.add ((x13_1).toNat*2))=some (.int .i64 ((rd_T51 t278 x13_1).f0))∧w'.cell? ⟨(ad281.add ((x13_1).toNat*2)).block,(ad281.add ((x13_1).toNat*2)).off+1,none⟩=some (.bool (false))) (ds:=[13,14]) #[false,false,false,false,false,false,false,false,false,false,false,false,false,false,false,false] (by kernel_rfl) rfl rfl ⟨hx289_0,hx289_1,hx290_0,hx290_1⟩ (fun hHeld=>?_);refine with_tabW tr_Eclipses.tab10 tr_Eclipses.bits10 (fun HT_ HW_=>?_)
        generalize w29.drew=w30 at HO_11 HO_12 BK277 HB hx289_0 hx289_1 hx290_0 hx290_1 hHeld ⊢
        refine pu_ (i:=0) (N:=some 43) ?_;refine pu_ (i:=1) (N:=some 44) ?_;refine pu_ (i:=2) (N:=some 45) ?_;refine pu_ (i:=3) (N:=some 46) ?_;refine pu_ (i:=4) (N:=some 47) ?_;refine pu_ (i:=6) (N:=some 49) ?_;refine pu_ (i:=7) (N:=some 50) ?_;refine pu_ (i:=8) (N:=some 51) ?_;refine pu_ (i:=9) (N:=some 52) ?_;refine pu_ (i:=11) (N:=some 54) ?_;refine ta_ (i:=5) (N:=some 48) ?_;refine ta_ (i:=10) (N:=some 53) ?_;refine pu_ (i:=12) (N:=some 55) ?_
        refine last_ (i:=13) (N:=some 56) #[true,true,true,true,true,true,true,true,true,true,true,true,true,true,false,false] rfl rfl (one_of HT_.out (by kernel_rfl)) (by decide) (fun K hK=>?_)
        refine value_ (w1:=?_) (v:=?_) (by rfl) rfl ?_ ?_
        rotate_left 2
        ·go_simp
         constructor
         ·rfl
         ·rfl
        refine hK.out _ _ ?_
        clear hK K
        refine norm_ (a':=?_) ?_ ?_
        rotate_left
        ·show Act.put _ (some 56) _=_
         simp only [Act.put,List.setIfInBounds_toArray,List.set_cons_zero,List.set_cons_succ,i64_w,i32_w]
         rfl
        refine last_ (i:=14) (N:=some 57) #[true,true,true,true,true,true,true,true,true,true,true,true,true,true,true,false] rfl rfl (one_of HT_.out (by kernel_rfl)) (by decide) (fun K hK=>?_)
        refine Kd.R_append_step k54 (w0:=w) w.heap.size (by rfl) (.tmp 43) (.tmp 56) 39 54 (.agg #[(.int .i64 0),(.bool false),(.int .i64 0)]) 24 rfl Tryz.underlying39 info54 rfl (by decide) (by omega) u11 x11_1 (⟨(rd_T51 t278 x13_1).f0,false,t282⟩:S54) [.int .i64 ((rd_T51 t278 x13_1).f0),.bool false,.int .i64 t282] (fun _=>True) (fun _=>False) rfl rfl ?aP (fun _ hk=>hk.elim) ?aF ?aO ?aB ?aS ?aL ?_
        (case aP=>exact k54_mkM _ _ _ (⟨(rd_T51 t278 x13_1).f0,false,t282⟩:S54))
        (case aB=>exact yp_)
        (case aF=>exact (fun _ _=>trivial))
        (case aO=>exact (rd_ HO_11.out))
        (case aS=>exact (below_size yp_))
        (case aL=>have:=LMc26.out;omega)
        intro v292 w31 ho hb hg hat
        rw [← Ny291.out] at ho
        have n0_:=A0_ (Kd.R_over' (rd_ HO_12.out) (Kd.R_typed (rd_ HO_11.out)) (by decide) hg);have n1_:=A0_ (blk_grown (g:=gb277) (o:=.cells #[.slice A0_0 l0_0.length c0_0,.int .i64 a0_1,.int .i64 a0_2,.int .i64 a0_3] 28 (0,0)) (bd_ BK277.out) hg (Kd.R_ne HO_11.out BK277.out (by decide)));have n2_:=A0_ (hb);have n3_:=A0_ (ho);clear HO_12;clear BK277;clear HB;clear HO_11;have HO_12:=n0_;have BK277:=n1_;have HB:=n2_;have HO293:=n3_;clear n0_ n1_ n2_ n3_;clear ho hb hg hat
        refine hK.out _ _ ?_
        clear hK K
        refine norm_ (a':=?_) ?_ ?_
        rotate_left
        ·show Act.put _ (some 57) _=_
         simp only [Act.put,List.setIfInBounds_toArray,List.set_cons_zero,List.set_cons_succ,i64_w,i32_w]
         rfl
        refine pu_ (i:=15) (N:=some 11) ?_
        refine done_ (done_of HT_.out (by kernel_rfl)) ?_
        try go_wp2
        go_roundg k1
        case measure=>have:=HK1.out;omega
        case rel=>exact ⟨(y291),(wrap64 (x13_1+1)),y4_,H',⟨by have:=HK1.out;omega⟩,⟨by (with_reducible repeat (first|apply Kd.R_alloc|apply Kd.R_drewN|apply Kd.R_drew));exact HO293.out⟩,⟨by (with_reducible repeat (first|apply Kd.R_alloc|apply Kd.R_drewN|apply Kd.R_drew));exact HO_12.out⟩,⟨by (with_reducible repeat (first|refine blk_drewN ?_ _|refine blk_drew ?_|refine blk_alloc ?_ _));exact BK277.out⟩,⟨yp_⟩⟩
       ·rw [if_neg c26] at H;exact absurd H (by simp)
      ·rw [if_neg c25] at H;have c25b0:decide (t282≤a1)=false:=decide_eq_false c25;clear c25
       have H':=A0_ H
       clear H
       obtain ⟨Ao32,co32,eo32⟩:=Kd.R_slice HO_12.out
       subst eo32
       try go_wp2
       have n0_:=A0_ (Kd.R_drew HO_11.out);have n1_:=A0_ (Kd.R_drew HO_12.out);have n2_:=A0_ (blk_drew BK277.out);have n3_:=A0_ (below_drew1 HB.out);clear HO_11;clear HO_12;clear BK277;clear HB;have HO_11:=n0_;have HO_12:=n1_;have BK277:=n2_;have HB:=n3_;clear n0_ n1_ n2_ n3_
       have p281:0≤(x13_1:Int):=of_decide_eq_true y2_
       have q281:x13_1<(t278.length:Int):=of_decide_eq_true y2_
       obtain ⟨ad281,e281,hx281_0,hx281_1⟩:=at_T51 (Kd.R_reads' HO_12.out).2.2 x13_1 p281 q281
       (try rw [← Nbq13.out] at hx281_1)
       cases e281
       replace p281:=eq_true p281
       replace q281:=eq_true q281
       refine start_ (n:=10) (S:=fun w'=>w'.cell? ⟨gb277,0,none⟩=some (.slice A0_0 l0_0.length c0_0)∧w'.cell? ⟨gb277,1,none⟩=some (.int .i64 a0_1)∧w'.cell? ⟨gb277,2,none⟩=some (.int .i64 a0_2)∧w'.cell? ⟨gb277,3,none⟩=some (.int .i64 a0_3)∧w'.cell? (ad281.add ((x13_1).toNat*2))=some (.int .i64 ((rd_T51 t278 x13_1).f0))∧w'.cell? ⟨(ad281.add ((x13_1).toNat*2)).block,(ad281.add ((x13_1).toNat*2)).off+1,none⟩=some (.bool false)) (ds:=[]) #[false,false,false,false,false,false,false,false,false,false] (by kernel_rfl) rfl rfl ⟨(blk_cell BK277.out 0).trans rfl,(blk_cell BK277.out 1).trans rfl,(blk_cell BK277.out 2).trans rfl,(blk_cell BK277.out 3).trans rfl,hx281_0,hx281_1⟩ (fun hHeld=>?_);refine with_tabW tr_Eclipses.tab6 tr_Eclipses.bits6 (fun HT_ HW_=>?_)
       generalize wr.drew=w33 at HO_11 HO_12 BK277 HB hx281_0 hx281_1 hHeld ⊢
       refine pu_ (i:=1) (N:=some 27) ?_;refine pu_ (i:=2) (N:=some 28) ?_;refine pu_ (i:=3) (N:=some 29) ?_;refine pu_ (i:=4) (N:=some 30) ?_;refine pu_ (i:=7) (N:=some 33) ?_;refine ta_ (i:=0) (N:=some 26) ?_;refine ta_ (i:=5) (N:=some 31) ?_
       refine one_ (i:=6) (N:=some 32) #[true,true,true,true,true,true,true,true,false,false] rfl rfl (one_of HT_.out (by kernel_rfl)) (by decide) (fun K hK=>?_)
       refine goes_ Tryz.func60 (by kernel_rfl) rfl #[.agg #[.slice A0_0 l0_0.length c0_0,.int .i64 a0_1,.int .i64 a0_2,.int .i64 a0_3],.int .i64 ((rd_T51 t278 x13_1).f0)] (by rfl) rfl rfl y1_ ?_
       with_reducible refine (tr_Far.calls _ _ l0_0 a0_1 a0_2 a0_3 ((rd_T51 t278 x13_1).f0) t282 _ ?side1 ?side2 A12.out).mono ?_
       (case side1=>repeat (first|exact (Kd.C_below HR0_0.out HB.out)|(with_reducible refine Kd.C_alloc ?_ _)|(with_reducible refine Kd.C_drewN ?_ _)|(with_reducible refine Kd.C_drew ?_)))
       (case side2=>exact HC0_0.out)
       rintro e w34 ⟨rfl,hb⟩
       have HS4_:=(hb.cell (World.block_lt_of_cell? _ _ (hHeld.2.2.2.2.1))).trans (hHeld.2.2.2.2.1)
       have HS5_:=(hb.cell (World.block_lt_of_cell? _ _ (hHeld.2.2.2.2.2))).trans (hHeld.2.2.2.2.2)
       refine ⟨_,rfl,?_⟩
       have n0_:=A0_ (Kd.R_below (rd_ HO_11.out) hb);have n1_:=A0_ (Kd.R_below (rd_ HO_12.out) hb);have n2_:=A0_ (blk_below (g:=gb277) (o:=.cells #[.slice A0_0 l0_0.length c0_0,.int .i64 a0_1,.int .i64 a0_2,.int .i64 a0_3] 28 (0,0)) (bd_ BK277.out) hb);have n3_:=A0_ (below_step yp_ hb);clear HO_11;clear HO_12;clear BK277;clear HB;have HO_11:=n0_;have HO_12:=n1_;have BK277:=n2_;have HB:=n3_;clear n0_ n1_ n2_ n3_;(try clear hb);(try clear hb2);(try clear hk);(try clear hi)
       refine hK.out _ _ ⟨(blk_cell BK277.out 0).trans rfl,(blk_cell BK277.out 1).trans rfl,(blk_cell BK277.out 2).trans rfl,(blk_cell BK277.out 3).trans rfl,HS4_,HS5_⟩ (fun hHeld=>?_)
       clear hK K
       refine norm_ (a':=?_) ?_ ?_
       rotate_left
       ·show Act.put _ (some 32) _=_
        simp only [Act.put,List.setIfInBounds_toArray,List.set_cons_zero,List.set_cons_succ,i64_w,i32_w]
        rfl
       refine pu_ (i:=8) (N:=some 14) ?_;refine pu_ (i:=9) (N:=some 15) ?_
       refine done_ (done_of HT_.out (by kernel_rfl)) ?_
       have p283:0≤(x13_1:Int):=of_decide_eq_true y2_
       have q283:x13_1<(t278.length:Int):=of_decide_eq_true y2_
       obtain ⟨ad283,e283,hx283_0,hx283_1⟩:=at_T51 (Kd.R_reads' HO_12.out).2.2 x13_1 p283 q283
       (try rw [← Nbq13.out] at hx283_1)
       obtain rfl:ad281=ad283:=(by injection e283)
       replace p283:=eq_true p283
       replace q283:=eq_true q283
       try go_wp2
       go_roundg k1
       case measure=>have:=HK1.out;omega
       case rel=>exact ⟨(x11_1),(wrap64 (x13_1+1)),y4_,H',⟨by have:=HK1.out;omega⟩,⟨by (with_reducible repeat (first|apply Kd.R_alloc|apply Kd.R_drewN|apply Kd.R_drew));exact HO_11.out⟩,⟨by (with_reducible repeat (first|apply Kd.R_alloc|apply Kd.R_drewN|apply Kd.R_drew));exact HO_12.out⟩,⟨by (with_reducible repeat (first|refine blk_drewN ?_ _|refine blk_drew ?_|refine blk_alloc ?_ _));exact BK277.out⟩,⟨yp_⟩⟩
    ·rw [if_neg c11] at H;exact absurd H (by simp)
   ·rw [if_neg c10] at H;have c10b0:decide (x13_1<(t278.length:Int))=false:=decide_eq_false c10;clear c10;obtain rfl:=Option.some.inj H
    obtain ⟨Ao35,co35,eo35⟩:=Kd.R_slice HO_12.out
    subst eo35;go_wp2;go_ret
    exact ⟨_,y3_,by (with_reducible repeat (first|apply Kd.R_alloc|apply Kd.R_drewN|apply Kd.R_drew));exact HO_11.out,yp_⟩
end Go.Proofs.YtaidphhkhddemaaGreatDoor.PSky
end
section
namespace Go.Proofs.YtaidphhkhddemaaGreatDoor.PSky
open Go.RowKit Go.Proofs.YtaidphhkhddemaaGreatDoorW.PrintWords Go.Proofs.YtaidphhkhddemaaGreatDoorW.PrintLast Go.Proofs.YtaidphhkhddemaaGreatDoorW.PrintMore
theorem Ev.pos {α:Type} {c:Prop} [Decidable c] {f g:Nat→Option α} {r:α} (h:c) (k:Ev f r):Ev (fun n=>if c then f n else g n) r:=by simpa only [if_pos h] using k
theorem Ev.neg {α:Type} {c:Prop} [Decidable c] {f g:Nat→Option α} {r:α} (h:¬ c) (k:Ev g r):Ev (fun n=>if c then f n else g n) r:=by simpa only [if_neg h] using k
theorem Ev.some {α:Type} (r:α):Ev (fun _=>Option.some r) r:=Ev.now r
theorem Ev.is {α:Type} {o:Option α} {r:α} (h:o=Option.some r):Ev (fun _=>o) r:=by rw [h];exact Ev.now r
theorem wrap_id {n:Int} (h:-9223372036854775808≤n∧n≤9223372036854775807):wrap64 n=n:=by unfold wrap64;omega
theorem scan {β:Type} (l:List β) (bad:β→Bool) (g:Nat→Nat→Option Int) (hlen:l.length≤1000000)
  (hyes:∀ i (h:i<l.length),bad l[i]=true→Ev (fun k=>g k i) (i:Int))
  (hno:∀ i (h:i<l.length),bad l[i]=false→∀ r,Ev (fun k=>g k (i+1)) r→Ev (fun k=>g k i) r)
  (hend:Ev (fun k=>g k l.length) (-1)):∀ m i,i+m=l.length→∃ r,Ev (fun k=>g k i) r∧decide (r ≥ 0)=(l.drop i).any bad
 |0,i,h=>⟨-1,by rw [show i=l.length by omega];exact hend,by rw [show i=l.length by omega,List.drop_length];rfl⟩
 |m+1,i,h=>by
  have hi:i<l.length:=by omega
  rw [List.drop_eq_getElem_cons hi,List.any_cons]
  cases hb:bad l[i] with
  |true=>exact ⟨i,hyes i hi hb,by simp⟩
  |false=>
   obtain ⟨r,hr,he⟩:=scan l bad g hlen hyes hno hend m (i+1) (by omega)
   exact ⟨r,hno i hi hb r hr,by simpa using he⟩
def okIn (a b c:Int):Bool:=decide (b≤a) && decide (a≤c)
theorem in_eq (a b c:Int):sky_in.f a b c=some (okIn a b c):=by
 unfold sky_in.f okIn
 by_cases h:a ≥ b
 ·rw [if_pos h,decide_eq_true (show b≤a from h),Bool.true_and]
 ·rw [if_neg h,decide_eq_false (show ¬ b≤a from h),Bool.false_and]
theorem rin_eq (a b c:Int):tr_in.f a b c=some (okIn a b c):=in_eq a b c
def okPeriod (p q:Int):Bool:=okIn p 1 10000 && (okIn q 1 10000 && decide (4*q≤p))
theorem isPeriod_eq (p q:Int):sky_isPeriod.f p q=some (okPeriod p q):=by
 unfold sky_isPeriod.f okPeriod
 simp only [in_eq,Option.bind_some]
 cases h1:okIn p 1 10000 with
 |false=>rfl
 |true=>
  cases h2:okIn q 1 10000 with
  |false=>rfl
  |true=>
   have hq:wrap64 (4*q)=4*q:=wrap_id (by simp [okIn] at h2;omega)
   rw [hq]
   rfl
theorem period_eq (p q:Int):tr_period.f p q=some (okPeriod p q):=isPeriod_eq p q
def okPlace (n:Int):Bool:=okIn n 0 21599
theorem isPlace_eq (n:Int):sky_isPlace.f n=some (okPlace n):=by unfold sky_isPlace.f;rw [in_eq];rfl
theorem Spot_eq (n:Int):tr_Spot.f n=some (okPlace n):=isPlace_eq n
def okRoad (l:List Int):Bool:=!l.any (fun n=>!okIn n (-600) 600)
def okBody (b:S83):Bool:=okPeriod b.f0.f0 b.f0.f1 && (okPlace b.f1 && (okIn (b.f2.length:Int) 1 8 && okRoad b.f2))
def okSky (l:List S83) (p q n:Int):Bool:=okIn (l.length:Int) 2 4 && (okPeriod p q && (okPlace n && !l.any (fun b=>!okBody b)))
theorem rd_get (l:List Int) (i:Nat) (h:i<l.length):rd l (i:Int)=l[i]:=by unfold rd;simp [h]
theorem rdT_get (l:List S83) (i:Nat) (h:i<l.length):rd_T83 l (i:Int)=l[i]:=by unfold rd_T83;simp [h]
theorem road_ev (l:List Int) (hl:l.length≤1000000):Ev (fun k=>cF_isSky_c1_c1.f k l) (l.any (fun n=>!okIn n (-600) 600)):=by
 obtain ⟨r,hr,he⟩:=scan l (fun n=>!okIn n (-600) 600) (fun k i=>iF_isSky_c1_c1.l0 k l (l.length:Int) (i:Int)) hl
  (fun i h hb=>by
   refine Ev.step (fun k=>by rw [iF_isSky_c1_c1.l0]) ?_
   refine Ev.pos (by omega) (Ev.pos (by omega) (Ev.pos (by omega) ?_))
   refine Ev.bind (a:=true) (Ev.is (by unfold sky_isSky_c1_c1.f;rw [in_eq,rd_get l i h];simp [hb])) ?_
   exact Ev.pos rfl (Ev.now _))
  (fun i h hb r hr=>by
   refine Ev.step (fun k=>by rw [iF_isSky_c1_c1.l0]) ?_
   refine Ev.pos (by omega) (Ev.pos (by omega) (Ev.pos (by omega) ?_))
   refine Ev.bind (a:=false) (Ev.is (by unfold sky_isSky_c1_c1.f;rw [in_eq,rd_get l i h];simp [hb])) ?_
   refine Ev.neg (by simp) ?_
   rw [wrap_id (by omega)]
   exact hr)
  (by
   refine Ev.step (fun k=>by rw [iF_isSky_c1_c1.l0]) ?_
   exact Ev.neg (by omega) (Ev.now _)) l.length 0 (by omega)
 unfold cF_isSky_c1_c1.f iF_isSky_c1_c1.f
 refine Ev.bind hr ?_
 rw [he]
 exact Ev.now _
theorem body_ev (b:S83):Ev (fun k=>sky_isSky_c1.f k b.f0.f0 b.f0.f1 b.f1 b.f2) (!okBody b):=by
 unfold sky_isSky_c1.f okBody
 refine Ev.bind (Ev.is (isPeriod_eq _ _)) ?_
 cases h1:okPeriod b.f0.f0 b.f0.f1 with
 |false=>exact Ev.neg (by simp) (Ev.now _)
 |true=>
  refine Ev.pos rfl (Ev.bind (Ev.is (isPlace_eq _)) ?_)
  cases h2:okPlace b.f1 with
  |false=>exact Ev.neg (by simp) (Ev.now _)
  |true=>
   refine Ev.pos rfl (Ev.bind (Ev.is (in_eq _ _ _)) ?_)
   cases h3:okIn (b.f2.length:Int) 1 8 with
   |false=>exact Ev.neg (by simp) (Ev.now _)
   |true=>
    refine Ev.pos rfl (Ev.bind (road_ev b.f2 (by simp [okIn] at h3;omega)) ?_)
    simp only [okRoad,Bool.true_and,Bool.not_not]
    exact Ev.now _
theorem bodies_ev (l:List S83) (hl:l.length≤1000000):Ev (fun k=>cF_isSky_c1.f k l) (l.any (fun b=>!okBody b)):=by
 obtain ⟨r,hr,he⟩:=scan l (fun b=>!okBody b) (fun k i=>iF_isSky_c1.l0 k l (l.length:Int) (i:Int)) hl
  (fun i h hb=>by
   refine Ev.step (fun k=>by rw [iF_isSky_c1.l0]) ?_
   refine Ev.pos (by omega) (Ev.pos (by omega) (Ev.pos (by omega) ?_))
   rw [rdT_get l i h]
   refine Ev.bind (body_ev _) ?_
   rw [hb]
   exact Ev.pos rfl (Ev.now _))
  (fun i h hb r hr=>by
   refine Ev.step (fun k=>by rw [iF_isSky_c1.l0]) ?_
   refine Ev.pos (by omega) (Ev.pos (by omega) (Ev.pos (by omega) ?_))
   rw [rdT_get l i h]
   refine Ev.bind (body_ev _) ?_
   rw [hb]
   refine Ev.neg (by simp) ?_
   rw [wrap_id (by omega)]
   exact hr)
  (by
   refine Ev.step (fun k=>by rw [iF_isSky_c1.l0]) ?_
   exact Ev.neg (by omega) (Ev.now _)) l.length 0 (by omega)
 unfold cF_isSky_c1.f iF_isSky_c1.f
 refine Ev.bind hr ?_
 rw [he]
 exact Ev.now _
theorem isSky_ev (l:List S83) (p q n:Int):Ev (fun k=>sky_isSky.f k l p q n) (okSky l p q n):=by
 unfold sky_isSky.f okSky
 refine Ev.bind (Ev.is (in_eq _ _ _)) ?_
 cases h1:okIn (l.length:Int) 2 4 with
 |false=>exact Ev.neg (by simp) (Ev.now _)
 |true=>
  refine Ev.pos rfl (Ev.bind (Ev.is (isPeriod_eq _ _)) ?_)
  cases h2:okPeriod p q with
  |false=>exact Ev.neg (by simp) (Ev.now _)
  |true=>
   refine Ev.pos rfl (Ev.bind (Ev.is (isPlace_eq _)) ?_)
   cases h3:okPlace n with
   |false=>exact Ev.neg (by simp) (Ev.now _)
   |true=>
    refine Ev.pos rfl (Ev.bind (bodies_ev l (by simp [okIn] at h1;omega)) ?_)
    simp only [Bool.true_and]
    exact Ev.now _
theorem refroad_ok (l:List S83) (p q n:Int) (i:Int) (b:S83) (hb:b.f2.length≤1000000) (r:Bool) (hall:∀ x∈b.f2,okIn x (-600) 600=true)
  (hr:Ev (fun k=>tr_Sky.l0 k (wrap64 (i+1)) l p q n) r):∀ m j:Nat,j+m=b.f2.length →
  Ev (fun k=>tr_Sky.l1 k i (j:Int) l p q n b.f0.f0 b.f0.f1 b.f1 b.f2) r
 |0,j,h=>by
  refine Ev.step (fun k=>by rw [tr_Sky.l1]) ?_
  exact Ev.neg (by omega) hr
 |m+1,j,h=>by
  have hj:j<b.f2.length:=by omega
  refine Ev.step (fun k=>by rw [tr_Sky.l1]) ?_
  refine Ev.pos (by omega) (Ev.pos (by omega) ?_)
  refine Ev.bind (a:=true) (Ev.is (by rw [rin_eq,rd_get _ j hj,hall _ (List.getElem_mem hj)])) (Ev.pos rfl ?_)
  rw [wrap_id (by omega)]
  exact refroad_ok l p q n i b hb r hall hr m (j+1) (by omega)
theorem refroad_bad (l:List S83) (p q n:Int) (i:Int) (b:S83) (hb:b.f2.length≤1000000):∀ m j:Nat,j+m=b.f2.length→(b.f2.drop j).any (fun n=>!okIn n (-600) 600)=true →
  Ev (fun k=>tr_Sky.l1 k i (j:Int) l p q n b.f0.f0 b.f0.f1 b.f1 b.f2) false
 |0,j,h,hbad=>by
  rw [show j=b.f2.length by omega,List.drop_length] at hbad
  cases hbad
 |m+1,j,h,hbad=>by
  have hj:j<b.f2.length:=by omega
  rw [List.drop_eq_getElem_cons hj,List.any_cons] at hbad
  refine Ev.step (fun k=>by rw [tr_Sky.l1]) ?_
  refine Ev.pos (by omega) (Ev.pos (by omega) ?_)
  refine Ev.bind (Ev.is (by rw [rin_eq,rd_get _ j hj])) ?_
  cases hq:okIn b.f2[j] (-600) 600 with
  |false=>exact Ev.neg (by simp) (Ev.now _)
  |true=>
   rw [hq] at hbad
   refine Ev.pos rfl ?_
   rw [wrap_id (by omega)]
   exact refroad_bad l p q n i b hb m (j+1) (by omega) (by simpa using hbad)
theorem refSky_loop (l:List S83) (p q n:Int) (hl:l.length≤1000000):∀ m i:Nat,i+m=l.length →
  Ev (fun k=>tr_Sky.l0 k (i:Int) l p q n) ((l.drop i).all okBody && (okIn (l.length:Int) 2 4 && (okPeriod p q && okPlace n)))
 |0,i,h=>by
  rw [show i=l.length by omega,List.drop_length]
  refine Ev.step (fun k=>by rw [tr_Sky.l0]) ?_
  refine Ev.neg (by omega) (Ev.bind (Ev.is (rin_eq _ _ _)) ?_)
  cases h1:okIn (l.length:Int) 2 4 with
  |false=>exact Ev.neg (by simp) (Ev.now _)
  |true=>
   refine Ev.pos rfl (Ev.bind (Ev.is (period_eq _ _)) ?_)
   cases h2:okPeriod p q with
   |false=>exact Ev.neg (by simp) (Ev.now _)
   |true=>
    refine Ev.pos rfl (Ev.bind (Ev.is (Spot_eq _)) ?_)
    simp only [List.all_nil,Bool.true_and]
    exact Ev.now _
 |m+1,i,h=>by
  have hi:i<l.length:=by omega
  rw [List.drop_eq_getElem_cons hi,List.all_cons]
  have ih:=refSky_loop l p q n hl m (i+1) (by omega)
  refine Ev.step (fun k=>by rw [tr_Sky.l0]) ?_
  refine Ev.pos (by omega) (Ev.pos (by omega) ?_)
  rw [rdT_get l i hi]
  generalize l[i]=b
  have bad:∀ R:Bool,Ev (fun k=>tr_Sky.j1 k (i:Int) true l p q n b.f0.f0 b.f0.f1 b.f1 b.f2) (false && R):=fun R=>by
   refine Ev.step (fun k=>by rw [tr_Sky.j1]) ?_
   exact Ev.pos rfl (Ev.now _)
  unfold okBody
  refine Ev.bind (Ev.is (period_eq _ _)) ?_
  cases h1:okPeriod b.f0.f0 b.f0.f1 with
  |false=>exact Ev.neg (by simp) (bad _)
  |true=>
   refine Ev.pos rfl (Ev.bind (Ev.is (Spot_eq _)) ?_)
   cases h2:okPlace b.f1 with
   |false=>exact Ev.neg (by simp) (bad _)
   |true=>
    refine Ev.pos rfl (Ev.bind (Ev.is (rin_eq _ _ _)) ?_)
    cases h3:okIn (b.f2.length:Int) 1 8 with
    |false=>exact bad _
    |true=>
     have hbl:b.f2.length≤1000000:=by simp [okIn] at h3;omega
     refine Ev.step (fun k=>by rw [tr_Sky.j1]) ?_
     refine Ev.neg (by simp) ?_
     cases h4:okRoad b.f2 with
     |false=>exact refroad_bad l p q n i b hbl b.f2.length 0 (by omega) (by simpa [okRoad] using h4)
     |true=>
      simp only [Bool.true_and]
      have h5:∀ x∈b.f2,okIn x (-600) 600=true:=by
       intro x hx
       unfold okRoad at h4
       cases hq:okIn x (-600) 600 with
       |true=>rfl
       |false=>
        have:b.f2.any (fun n=>!okIn n (-600) 600)=true:=List.any_eq_true.mpr ⟨x,hx,by simp [hq]⟩
        rw [this] at h4
        cases h4
      refine refroad_ok l p q n i b hbl _ h5 ?_ b.f2.length 0 (by omega)
      rw [wrap_id (by omega)]
      exact ih
theorem any_all (f:S83→Bool) (l:List S83):(!l.any (fun b=>!f b))=l.all f:=by
 induction l with
 |nil=>rfl
 |cons b t ih=>simp [ih]
theorem refSky_ev (l:List S83) (p q n:Int) (hl:l.length≤1000000):Ev (fun k=>tr_Sky.f k l p q n) (okSky l p q n):=by
 have h:=refSky_loop l p q n hl l.length 0 (by omega)
 rw [List.drop_zero] at h
 have e:okSky l p q n=(l.all okBody && (okIn (l.length:Int) 2 4 && (okPeriod p q && okPlace n))):=by
  unfold okSky
  rw [any_all]
  cases l.all okBody <;> cases okIn (l.length:Int) 2 4 <;> cases okPeriod p q <;> cases okPlace n <;> rfl
 rw [e]
 exact h
theorem short_ev (l:List S83) (p q n:Int):∃ b,Ev (fun k=>tl_short.f k l p q n) b∧(b=true→l.length≤6):=by
 have key:∀ m i:Nat,i+m=7→∃ b,Ev (fun k=>tl_short.l0 k (i:Int) l p q n) b∧(b=true→l.length≤6):=by
  intro m
  induction m with
  |zero=>
   intro i h
   have fin:∀ c:Bool,c=false→Ev (fun k=>tl_short.j1 k (i:Int) c l p q n) (decide ((l.length:Int)≤6)):=fun c hc=>by
    refine Ev.step (fun k=>by rw [tl_short.j1]) ?_
    exact Ev.neg (by simp [hc]) (Ev.now _)
   refine ⟨decide ((l.length:Int)≤6),?_,fun h=>by have:=of_decide_eq_true h;omega⟩
   refine Ev.step (fun k=>by rw [tl_short.l0]) ?_
   by_cases hi:(i:Int)<(l.length:Int)
   ·exact Ev.pos hi (fin _ (decide_eq_false (by omega)))
   ·exact Ev.neg hi (fin _ rfl)
  |succ m ih=>
   intro i h
   by_cases hi:(i:Int)<(l.length:Int)
   ·by_cases hr:((rd_T83 l (i:Int)).f2.length:Int) > 10
    ·refine ⟨false,?_,fun h=>by cases h⟩
     refine Ev.step (fun k=>by rw [tl_short.l0]) (Ev.pos hi ?_)
     refine Ev.step (fun k=>by rw [tl_short.j1]) (Ev.pos (by simp;omega) ?_)
     exact Ev.pos (by omega) (Ev.pos hi (Ev.pos hr (Ev.now _)))
    ·obtain ⟨b,hb,hb6⟩:=ih (i+1) (by omega)
     refine ⟨b,?_,hb6⟩
     refine Ev.step (fun k=>by rw [tl_short.l0]) (Ev.pos hi ?_)
     refine Ev.step (fun k=>by rw [tl_short.j1]) (Ev.pos (by simp;omega) ?_)
     refine Ev.pos (by omega) (Ev.pos hi (Ev.neg hr ?_))
     rw [wrap_id (by omega)]
     exact hb
   ·refine ⟨decide ((l.length:Int)≤6),?_,fun h=>by have:=of_decide_eq_true h;omega⟩
    refine Ev.step (fun k=>by rw [tl_short.l0]) (Ev.neg hi ?_)
    refine Ev.step (fun k=>by rw [tl_short.j1]) ?_
    exact Ev.neg (by simp) (Ev.now _)
 unfold tl_short.f
 exact key 7 0 rfl
def okSpan (a b:Int):Bool:=okIn a 1 20000 && (okIn b a 20000 && decide (b - a≤800))
theorem isSpan_eq (a b:Int):sky_isSpan.f a b=some (okSpan a b):=by
 unfold sky_isSpan.f okSpan
 rw [in_eq,Option.bind_some]
 cases h1:okIn a 1 20000 with
 |false=>rfl
 |true=>
  rw [in_eq]
  cases h2:okIn b a 20000 with
  |false=>rfl
  |true=>
   have hq:wrap64 (b - a)=b - a:=wrap_id (by simp [okIn] at h1 h2;omega)
   rw [hq]
   rfl
end Go.Proofs.YtaidphhkhddemaaGreatDoor.PSky
end
section
namespace Go.Proofs.YtaidphhkhddemaaGreatDoor.PSky
open Go.RowKit Go.Proofs.YtaidphhkhddemaaGreatDoorW.PrintWords Go.Proofs.YtaidphhkhddemaaGreatDoorW.PrintLast Go.Proofs.YtaidphhkhddemaaGreatDoorW.PrintMore
theorem tquot {a b:Int} (hb:0<b):(Int.tmod a b<0→a / b=Int.tdiv a b - 1∧a % b=Int.tmod a b+b)∧(0≤Int.tmod a b→a / b=Int.tdiv a b∧a % b=Int.tmod a b):=by
 have h1:=Int.tmod_add_mul_tdiv a b
 have h2:=Int.tmod_lt_of_pos a hb
 have h3:=Int.lt_tmod_of_pos a hb
 refine ⟨fun h=>?_,fun h=>?_⟩
 ·exact (Int.ediv_emod_unique hb).mpr ⟨by rw [Int.mul_sub,Int.mul_one];omega,by omega,by omega⟩
 ·exact (Int.ediv_emod_unique hb).mpr ⟨by omega,h,h2⟩
theorem tdiv_le {a b:Int} (hb:0<b) {m:Int} (ha:-m≤a∧a≤m) (hm:0≤m):-m - 1≤a / b∧a / b≤m:=by
 constructor
 ·have:(-m - 1)≤a / b:=by
   rw [Int.le_ediv_iff_mul_le hb]
   have:=Int.mul_le_mul_of_nonneg_left (show (1:Int)≤b by omega) (show (0:Int)≤m+1 by omega)
   have e:(-m - 1)*b = -((m+1)*b):=by rw [← Int.neg_mul];congr 1;omega
   omega
  exact this
 ·have:a / b≤m:=by
   have h1:a / b*b≤a:=Int.ediv_mul_le a (by omega)
   rcases Int.lt_or_le (a / b) 0 with h|h
   ·omega
   ·have:=Int.mul_le_mul_of_nonneg_left (show (1:Int)≤b by omega) h
    omega
  exact this
theorem floor_eq {a b:Int} (hb:0<b) (hb2:b≤1000000000000) (ha:-1000000000000000000≤a∧a≤1000000000000000000):sky_floor.f a b=some (a / b,a % b):=by
 have q:=tdiv_le hb ha (by decide)
 have m0:=Int.emod_nonneg a (show b≠0 by omega)
 have m1:=Int.emod_lt_of_pos a hb
 unfold sky_floor.f
 rw [if_neg (by omega)]
 by_cases h:Int.tmod a b<0
 ·obtain ⟨e1,e2⟩:=(tquot (a:=a) hb).1 h
  rw [if_pos h,e1,e2]
  rw [e1] at q
  rw [e2] at m0 m1
  rw [wrap_id (show -9223372036854775808≤a.tdiv b∧a.tdiv b≤9223372036854775807 by omega),wrap_id (by omega),wrap_id (by omega)]
 ·obtain ⟨e1,e2⟩:=(tquot (a:=a) hb).2 (by omega)
  rw [if_neg h,e1,e2]
  rw [e1] at q
  rw [wrap_id (show -9223372036854775808≤a.tdiv b∧a.tdiv b≤9223372036854775807 by omega)]
theorem around_eq {a:Int} (ha:-1000000000000000000≤a∧a≤1000000000000000000):sky_around.f a=some (a % 21600):=by
 unfold sky_around.f
 rw [floor_eq (by decide) (by decide) ha]
 rfl
theorem down_eq {a b:Int} (hb:0<b) (hb2:b≤1000000) (ha:-1000000000000≤a∧a≤1000000000000):tr_down.f a b=some (a / b):=by
 have q:=tdiv_le hb ha (by decide)
 have h0:=Int.tmod_add_mul_tdiv a b
 have h2:=Int.tmod_lt_of_pos a hb
 have h3:=Int.lt_tmod_of_pos a hb
 have e0:a.tdiv b*b=b*a.tdiv b:=Int.mul_comm _ _
 unfold tr_down.f
 rw [if_neg (by omega)]
 by_cases h:Int.tmod a b<0
 ·obtain ⟨e1,e2⟩:=(tquot (a:=a) hb).1 h
  rw [e1] at q ⊢
  rw [wrap_id (show -9223372036854775808≤a.tdiv b∧a.tdiv b≤9223372036854775807 by omega),wrap_id (show -9223372036854775808≤a.tdiv b*b∧a.tdiv b*b≤9223372036854775807 by omega),if_pos (by omega),wrap_id (by omega)]
 ·obtain ⟨e1,e2⟩:=(tquot (a:=a) hb).2 (by omega)
  rw [e1] at q ⊢
  rw [wrap_id (show -9223372036854775808≤a.tdiv b∧a.tdiv b≤9223372036854775807 by omega),wrap_id (show -9223372036854775808≤a.tdiv b*b∧a.tdiv b*b≤9223372036854775807 by omega),if_neg (by omega)]
theorem Less_eq {a:Int} (ha:-1000000000000≤a∧a≤1000000000000):tr_Less.f a=some (a % 21600):=by
 unfold tr_Less.f
 rw [down_eq (by decide) (by decide) ha,Option.bind_some]
 have h1:=Int.emod_add_mul_ediv a 21600
 have h2:=Int.emod_nonneg a (show (21600:Int)≠0 by decide)
 have h3:=Int.emod_lt_of_pos a (show (0:Int)<21600 by decide)
 rw [wrap_id (show -9223372036854775808≤a / 21600*21600∧a / 21600*21600≤9223372036854775807 by omega),wrap_id (by omega)]
 congr 1
 omega
def goneOf (p q d:Int):Int:=d*21600*q / p
def meanOf (b:S83) (d:Int):Int:=b.f1+goneOf b.f0.f0 b.f0.f1 d
def stepOf (b:S83) (d:Int):Int:=(meanOf b d % 21600)*(b.f2.length:Int)
def wayOf (b:S83) (d:Int):Int:=
 meanOf b d+rd b.f2 (stepOf b d / 21600)+(rd b.f2 ((stepOf b d / 21600+1) % (b.f2.length:Int)) - rd b.f2 (stepOf b d / 21600))*(stepOf b d % 21600) / 21600
theorem okIn_iff {a b c:Int}:okIn a b c=true ↔ b≤a∧a≤c:=by simp [okIn]
theorem period_of {p q:Int} (h:okPeriod p q=true):1≤p∧p≤10000∧1≤q∧q≤10000∧4*q≤p:=by
 simp only [okPeriod,Bool.and_eq_true,okIn_iff,decide_eq_true_eq] at h
 omega
theorem gone_bounds {p q d:Int} (h:okPeriod p q=true) (hd:0≤d∧d≤20000):0≤goneOf p q d∧goneOf p q d≤108000000∧0≤d*21600*q∧d*21600*q≤4320000000000:=by
 have hp:=period_of h
 have h1:d*21600*q=d*q*21600:=by rw [Int.mul_assoc,Int.mul_comm 21600 q,← Int.mul_assoc]
 have h0:0≤d*q:=Int.mul_nonneg hd.1 (by omega)
 have h2:d*q≤20000*q:=Int.mul_le_mul_of_nonneg_right hd.2 (by omega)
 refine ⟨Int.ediv_nonneg (by omega) (by omega),?_,by omega,by omega⟩
 unfold goneOf
 have h3:d*21600*q / p*p≤d*21600*q:=Int.ediv_mul_le _ (by omega)
 rcases Int.lt_or_le (d*21600*q / p) 108000001 with h4|h4
 ·omega
 ·have h5:=Int.mul_le_mul h4 (show 4*q≤p by omega) (by omega) (by omega)
  have h6:108000001*(4*q)=432000004*q:=by omega
  omega
theorem mean_bounds {b:S83} {d:Int} (h:okBody b=true) (hd:0≤d∧d≤20000):0≤meanOf b d∧meanOf b d≤108021599:=by
 simp only [okBody,Bool.and_eq_true,okPlace,okIn_iff] at h
 have:=gone_bounds h.1 hd
 unfold meanOf
 omega
theorem road_bounds {b:S83} (h:okBody b=true) (i:Int):-600≤rd b.f2 i∧rd b.f2 i≤600:=by
 simp only [okBody,Bool.and_eq_true] at h
 have h4:=h.2.2.2
 unfold rd
 rw [List.getD_eq_getElem?_getD]
 cases hq:b.f2[i.toNat]? with
 |none=>decide
 |some x=>
  have hx:=List.mem_of_getElem? hq
  have:okIn x (-600) 600=true:=by
   cases h5:okIn x (-600) 600 with
   |true=>rfl
   |false=>
    unfold okRoad at h4
    rw [List.any_eq_true.mpr ⟨x,hx,by simp [h5]⟩] at h4
    cases h4
  exact okIn_iff.mp this
theorem body_len {b:S83} (h:okBody b=true):1≤b.f2.length∧b.f2.length≤8:=by
 simp only [okBody,Bool.and_eq_true,okIn_iff] at h
 omega
theorem step_bounds {b:S83} {d:Int} (h:okBody b=true):0≤stepOf b d∧stepOf b d≤172800∧0≤stepOf b d / 21600∧stepOf b d / 21600<(b.f2.length:Int):=by
 have hl:=body_len h
 have h2:=Int.emod_nonneg (meanOf b d) (show (21600:Int)≠0 by decide)
 have h3:=Int.emod_lt_of_pos (meanOf b d) (show (0:Int)<21600 by decide)
 unfold stepOf
 generalize meanOf b d % 21600=x at h2 h3 ⊢
 have h4:0≤x*(b.f2.length:Int):=Int.mul_nonneg h2 (by omega)
 have h5:x*(b.f2.length:Int)≤21599*(b.f2.length:Int):=Int.mul_le_mul_of_nonneg_right (by omega) (by omega)
 refine ⟨h4,by omega,by omega,by omega⟩
theorem gone_eq (l:List S83) (a1 a2 a3:Int) {p q d:Int} (h:okPeriod p q=true) (hd:0≤d∧d≤20000):ss_gone.f l a1 a2 a3 d p q=some (goneOf p q d):=by
 have hg:=gone_bounds h hd
 have hp:=period_of h
 unfold ss_gone.f
 rw [wrap_id (show -9223372036854775808≤d*21600∧d*21600≤9223372036854775807 by omega),wrap_id (by omega),floor_eq (by omega) (by omega) (by omega)]
 rfl
theorem sum2_ev (a b:Int) (h:-1000000000≤a∧a≤1000000000) (h':-1000000000≤b∧b≤1000000000):Ev (fun k=>sky_sum.f k [a,b]) (a+b):=by
 unfold sky_sum.f
 rw [show (([a,b].length:Nat):Int)=2 from rfl]
 have w1:wrap64 (0+1)=1:=by kernel_rfl
 have w2:wrap64 (1+1)=2:=by kernel_rfl
 refine Ev.step (fun k=>by rw [sky_sum.l0]) ?_
 refine Ev.pos (by decide) (Ev.pos (by decide) (Ev.pos (by show (0:Int)<2;decide) ?_))
 rw [w1]
 refine Ev.step (fun k=>by rw [sky_sum.l0]) ?_
 refine Ev.pos (by decide) (Ev.pos (by decide) (Ev.pos (by show (1:Int)<2;decide) ?_))
 rw [w2]
 refine Ev.step (fun k=>by rw [sky_sum.l0]) ?_
 refine Ev.neg (by decide) ?_
 rw [show rd [a,b] 0=a from rfl,show rd [a,b] 1=b from rfl,wrap_id (show -9223372036854775808≤0+a∧0+a≤9223372036854775807 by omega),wrap_id (by omega),Int.zero_add]
 exact Ev.now _
theorem sum3_ev (a b c:Int) (h:-1000000000≤a∧a≤1000000000) (h':-1000000000≤b∧b≤1000000000) (h'':-1000000000≤c∧c≤1000000000):Ev (fun k=>sky_sum.f k [a,b,c]) (a+b+c):=by
 unfold sky_sum.f
 rw [show (([a,b,c].length:Nat):Int)=3 from rfl]
 have w1:wrap64 (0+1)=1:=by kernel_rfl
 have w2:wrap64 (1+1)=2:=by kernel_rfl
 have w3:wrap64 (2+1)=3:=by kernel_rfl
 refine Ev.step (fun k=>by rw [sky_sum.l0]) ?_
 refine Ev.pos (by decide) (Ev.pos (by decide) (Ev.pos (by show (0:Int)<3;decide) ?_))
 rw [w1]
 refine Ev.step (fun k=>by rw [sky_sum.l0]) ?_
 refine Ev.pos (by decide) (Ev.pos (by decide) (Ev.pos (by show (1:Int)<3;decide) ?_))
 rw [w2]
 refine Ev.step (fun k=>by rw [sky_sum.l0]) ?_
 refine Ev.pos (by decide) (Ev.pos (by decide) (Ev.pos (by show (2:Int)<3;decide) ?_))
 rw [w3]
 refine Ev.step (fun k=>by rw [sky_sum.l0]) ?_
 refine Ev.neg (by decide) ?_
 rw [show rd [a,b,c] 0=a from rfl,show rd [a,b,c] 1=b from rfl,show rd [a,b,c] 2=c from rfl,wrap_id (show -9223372036854775808≤0+a∧0+a≤9223372036854775807 by omega),wrap_id (show -9223372036854775808≤0+a+b∧0+a+b≤9223372036854775807 by omega),wrap_id (by omega),Int.zero_add]
 exact Ev.now _
theorem mean_ev (l:List S83) (a1 a2 a3 d:Int) (i:Nat) (hi:i<l.length) (h:okBody l[i]=true) (hd:0≤d∧d≤20000):Ev (fun k=>ss_mean.f k l a1 a2 a3 d (i:Int)) (meanOf l[i] d):=by
 unfold ss_mean.f
 refine Ev.pos (by omega) (Ev.pos (by omega) ?_)
 rw [rdT_get l i hi]
 generalize l[i]=b at h
 have hp:okPeriod b.f0.f0 b.f0.f1=true:=by simp only [okBody,Bool.and_eq_true] at h;exact h.1
 have hs:0≤b.f1∧b.f1≤21599:=by simp only [okBody,Bool.and_eq_true,okPlace,okIn_iff] at h;exact h.2.1
 have hg:=gone_bounds hp hd
 refine Ev.bind (Ev.is (gone_eq l a1 a2 a3 hp hd)) (Ev.bind (sum2_ev _ _ (by omega) (by omega)) (Ev.now _))
theorem way_ev (l:List S83) (a1 a2 a3 d:Int) (i:Nat) (hi:i<l.length) (h:okBody l[i]=true) (hd:0≤d∧d≤20000):Ev (fun k=>ss_way.f k l a1 a2 a3 d (i:Int)) (wayOf l[i] d):=by
 have hm:=mean_ev l a1 a2 a3 d i hi h hd
 unfold ss_way.f
 refine Ev.pos (by omega) (Ev.pos (by omega) (Ev.bind hm ?_))
 rw [rdT_get l i hi]
 generalize l[i]=b at h
 have hmb:=mean_bounds h hd
 have hl:=body_len h
 have hs:=step_bounds (d:=d) h
 refine Ev.bind (Ev.is (around_eq (by omega))) ?_
 rw [show meanOf b d % 21600*(b.f2.length:Int)=stepOf b d from rfl,wrap_id (show -9223372036854775808≤stepOf b d∧stepOf b d≤9223372036854775807 by omega)]
 refine Ev.bind (Ev.is (floor_eq (by decide) (by decide) (by omega))) ?_
 simp only
 rw [wrap_id (show -9223372036854775808≤stepOf b d / 21600+1∧stepOf b d / 21600+1≤9223372036854775807 by omega)]
 have ht:Int.tmod (stepOf b d / 21600+1) (b.f2.length:Int)=(stepOf b d / 21600+1) % (b.f2.length:Int):=Int.tmod_eq_emod_of_nonneg (by omega)
 rw [ht]
 have h2:=Int.emod_nonneg (stepOf b d / 21600+1) (show (b.f2.length:Int)≠0 by omega)
 have h3:=Int.emod_lt_of_pos (stepOf b d / 21600+1) (show (0:Int)<(b.f2.length:Int) by omega)
 refine Ev.neg (by omega) (Ev.pos h2 (Ev.pos h3 (Ev.pos hs.2.2.1 (Ev.pos hs.2.2.2 ?_))))
 have r1:=road_bounds h (stepOf b d / 21600)
 have r2:=road_bounds h ((stepOf b d / 21600+1) % (b.f2.length:Int))
 have p0:=Int.emod_nonneg (stepOf b d) (show (21600:Int)≠0 by decide)
 have p1:=Int.emod_lt_of_pos (stepOf b d) (show (0:Int)<21600 by decide)
 unfold wayOf
 generalize rd b.f2 (stepOf b d / 21600)=x at r1 ⊢
 generalize rd b.f2 ((stepOf b d / 21600+1) % (b.f2.length:Int))=y at r2 ⊢
 generalize stepOf b d % 21600=z at p0 p1 ⊢
 have q:-25920000≤(y - x)*z∧(y - x)*z≤25920000:=by
  constructor
  ·have:=Int.mul_le_mul_of_nonneg_right (show -1200≤y - x by omega) p0
   omega
  ·have:=Int.mul_le_mul_of_nonneg_right (show y - x≤1200 by omega) p0
   omega
 rw [wrap_id (show -9223372036854775808≤y - x∧y - x≤9223372036854775807 by omega),wrap_id (show -9223372036854775808≤(y - x)*z∧(y - x)*z≤9223372036854775807 by omega)]
 refine Ev.bind (Ev.is (floor_eq (by decide) (by decide) (by omega))) (Ev.bind (sum3_ev _ _ _ (by omega) (by omega) (by simp only;omega)) (Ev.now _))
theorem way_bounds {b:S83} {d:Int} (h:okBody b=true) (hd:0≤d∧d≤20000):-2000≤wayOf b d∧wayOf b d≤108030000:=by
 have hmb:=mean_bounds h hd
 have r1:=road_bounds h (stepOf b d / 21600)
 have r2:=road_bounds h ((stepOf b d / 21600+1) % (b.f2.length:Int))
 have p0:=Int.emod_nonneg (stepOf b d) (show (21600:Int)≠0 by decide)
 have p1:=Int.emod_lt_of_pos (stepOf b d) (show (0:Int)<21600 by decide)
 unfold wayOf
 generalize rd b.f2 (stepOf b d / 21600)=x at r1 ⊢
 generalize rd b.f2 ((stepOf b d / 21600+1) % (b.f2.length:Int))=y at r2 ⊢
 generalize stepOf b d % 21600=z at p0 p1 ⊢
 have q:-25920000≤(y - x)*z∧(y - x)*z≤25920000:=by
  constructor
  ·have:=Int.mul_le_mul_of_nonneg_right (show -1200≤y - x by omega) p0
   omega
  ·have:=Int.mul_le_mul_of_nonneg_right (show y - x≤1200 by omega) p0
   omega
 omega
end Go.Proofs.YtaidphhkhddemaaGreatDoor.PSky
end
section
namespace Go.Proofs.YtaidphhkhddemaaGreatDoor.PSky
open Go.RowKit Go.Proofs.YtaidphhkhddemaaGreatDoorW.PrintWords Go.Proofs.YtaidphhkhddemaaGreatDoorW.PrintLast Go.Proofs.YtaidphhkhddemaaGreatDoorW.PrintMore
theorem refmean_eq {b:S83} {d:Int} (h:okBody b=true) (hd:0≤d∧d≤20000):tr_mean.f b.f0.f0 b.f0.f1 b.f1 b.f2 d=some (meanOf b d):=by
 have hp:okPeriod b.f0.f0 b.f0.f1=true:=by simp only [okBody,Bool.and_eq_true] at h;exact h.1
 have hs:0≤b.f1∧b.f1≤21599:=by simp only [okBody,Bool.and_eq_true,okPlace,okIn_iff] at h;exact h.2.1
 have hg:=gone_bounds hp hd
 have hpp:=period_of hp
 unfold tr_mean.f
 rw [if_neg (by omega),wrap_id (show -9223372036854775808≤d*21600∧d*21600≤9223372036854775807 by omega),wrap_id (show -9223372036854775808≤d*21600*b.f0.f1∧d*21600*b.f0.f1≤9223372036854775807 by omega)]
 rw [Int.tdiv_eq_ediv_of_nonneg hg.2.2.1]
 rw [show d*21600*b.f0.f1 / b.f0.f0=goneOf b.f0.f0 b.f0.f1 d from rfl,wrap_id (show -9223372036854775808≤goneOf b.f0.f0 b.f0.f1 d∧goneOf b.f0.f0 b.f0.f1 d≤9223372036854775807 by omega),wrap_id (by omega)]
 rfl
theorem refway_eq {b:S83} {d:Int} (h:okBody b=true) (hd:0≤d∧d≤20000):tr_way.f b.f0.f0 b.f0.f1 b.f1 b.f2 d=some (wayOf b d):=by
 have hmb:=mean_bounds h hd
 have hl:=body_len h
 have hs:=step_bounds (d:=d) h
 unfold tr_way.f
 have hM:tr_Mean.f b.f0.f0 b.f0.f1 b.f1 b.f2 d=some (meanOf b d % 21600):=by
  unfold tr_Mean.f
  rw [refmean_eq h hd,Option.bind_some,Less_eq (by omega)]
  rfl
 rw [hM,Option.bind_some,if_neg (by omega),refmean_eq h hd]
 rw [show meanOf b d % 21600*(b.f2.length:Int)=stepOf b d from rfl,wrap_id (show -9223372036854775808≤stepOf b d∧stepOf b d≤9223372036854775807 by omega)]
 rw [Int.tdiv_eq_ediv_of_nonneg hs.1,Int.tmod_eq_emod_of_nonneg hs.1,wrap_id (show -9223372036854775808≤stepOf b d / 21600∧stepOf b d / 21600≤9223372036854775807 by omega),wrap_id (show -9223372036854775808≤stepOf b d / 21600+1∧stepOf b d / 21600+1≤9223372036854775807 by omega)]
 have ht:Int.tmod (stepOf b d / 21600+1) (b.f2.length:Int)=(stepOf b d / 21600+1) % (b.f2.length:Int):=Int.tmod_eq_emod_of_nonneg (by omega)
 rw [ht]
 have h2:=Int.emod_nonneg (stepOf b d / 21600+1) (show (b.f2.length:Int)≠0 by omega)
 have h3:=Int.emod_lt_of_pos (stepOf b d / 21600+1) (show (0:Int)<(b.f2.length:Int) by omega)
 rw [if_pos h2,if_pos h3,Option.bind_some,if_pos hs.2.2.1,if_pos hs.2.2.2]
 have r1:=road_bounds h (stepOf b d / 21600)
 have r2:=road_bounds h ((stepOf b d / 21600+1) % (b.f2.length:Int))
 have p0:=Int.emod_nonneg (stepOf b d) (show (21600:Int)≠0 by decide)
 have p1:=Int.emod_lt_of_pos (stepOf b d) (show (0:Int)<21600 by decide)
 unfold wayOf
 generalize rd b.f2 (stepOf b d / 21600)=x at r1 ⊢
 generalize rd b.f2 ((stepOf b d / 21600+1) % (b.f2.length:Int))=y at r2 ⊢
 generalize stepOf b d % 21600=z at p0 p1 ⊢
 have q:-25920000≤(y - x)*z∧(y - x)*z≤25920000:=by
  constructor
  ·have:=Int.mul_le_mul_of_nonneg_right (show -1200≤y - x by omega) p0
   omega
  ·have:=Int.mul_le_mul_of_nonneg_right (show y - x≤1200 by omega) p0
   omega
 rw [wrap_id (show -9223372036854775808≤y - x∧y - x≤9223372036854775807 by omega),wrap_id (show -9223372036854775808≤(y - x)*z∧(y - x)*z≤9223372036854775807 by omega)]
 rw [down_eq (by decide) (by decide) (by omega),Option.bind_some,wrap_id (show -9223372036854775808≤meanOf b d+x∧meanOf b d+x≤9223372036854775807 by omega),wrap_id (by omega)]
def aheadOf (l:List S83) (i j:Nat) (d:Int):Int:=wayOf (rd_T83 l (i:Int)) d - wayOf (rd_T83 l (j:Int)) d
theorem ok_at {l:List S83} {p q n:Int} (h:okSky l p q n=true):2≤l.length∧l.length≤4∧okPeriod p q=true∧okPlace n=true∧∀ i:Nat,i<l.length→okBody (rd_T83 l (i:Int))=true:=by
 simp only [okSky,Bool.and_eq_true,okIn_iff] at h
 refine ⟨by omega,by omega,h.2.1,h.2.2.1,fun i hi=>?_⟩
 have h4:=h.2.2.2
 rw [any_all] at h4
 rw [rdT_get l i hi]
 exact List.all_eq_true.mp h4 _ (List.getElem_mem hi)
theorem refahead_eq {l:List S83} {p q n:Int} (h:okSky l p q n=true) (i j:Nat) (hi:i<l.length) (hj:j<l.length) {d:Int} (hd:0≤d∧d≤20000):tr_ahead.f l p q n (i:Int) (j:Int) d=some (aheadOf l i j d):=by
 obtain ⟨-,-,-,-,hb⟩:=ok_at h
 have b1:=way_bounds (hb i hi) hd
 have b2:=way_bounds (hb j hj) hd
 unfold tr_ahead.f aheadOf
 rw [if_pos (by omega),if_pos (by omega),refway_eq (hb i hi) hd,Option.bind_some,if_pos (by omega),if_pos (by omega),refway_eq (hb j hj) hd,Option.bind_some,wrap_id (by omega)]
theorem wayT_ev {l:List S83} {p q n:Int} (h:okSky l p q n=true) (i:Nat) (hi:i<l.length) {d:Int} (hd:0≤d∧d≤20000):Ev (fun k=>ss_way.f k l p q n d (i:Int)) (wayOf (rd_T83 l (i:Int)) d):=by
 have hb:=(ok_at h).2.2.2.2 i hi
 rw [rdT_get l i hi] at hb ⊢
 exact way_ev l p q n d i hi hb hd
theorem lunar_ev {l:List S83} {p q n:Int} (h:okSky l p q n=true) {d:Int} (hd:0≤d∧d≤20000):Ev (fun k=>ss_lunar.f k l p q n d) (aheadOf l 1 0 d):=by
 obtain ⟨h2,-,-,-,hb⟩:=ok_at h
 have b1:=way_bounds (hb 1 (by omega)) hd
 have b2:=way_bounds (hb 0 (by omega)) hd
 unfold ss_lunar.f aheadOf
 refine Ev.bind (a:=wayOf (rd_T83 l ((0:Nat):Int)) d) ?_ (Ev.bind (a:=wayOf (rd_T83 l ((1:Nat):Int)) d) ?_ ?_)
 ·unfold ss_sun.f
  exact Ev.bind (wayT_ev h 0 (by omega) hd) (Ev.now _)
 ·unfold ss_moon.f
  exact Ev.bind (wayT_ev h 1 (by omega) hd) (Ev.now _)
 ·rw [wrap_id (by omega)]
  exact Ev.now _
theorem ahead_bounds {l:List S83} {p q n:Int} (h:okSky l p q n=true) (i j:Nat) (hi:i<l.length) (hj:j<l.length) {d:Int} (hd:0≤d∧d≤20000):-200000000≤aheadOf l i j d∧aheadOf l i j d≤200000000:=by
 obtain ⟨-,-,-,-,hb⟩:=ok_at h
 have b1:=way_bounds (hb i hi) hd
 have b2:=way_bounds (hb j hj) hd
 unfold aheadOf
 omega
theorem passes_eq {a b:Int} (ha:-1000000000≤a∧a≤1000000000) (hb:-1000000000≤b∧b≤1000000000):sky_passes.f a b=some (decide (b / 21600 > a / 21600)):=by
 unfold sky_passes.f
 rw [floor_eq (by decide) (by decide) (by omega),Option.bind_some,floor_eq (by decide) (by decide) (by omega),Option.bind_some]
theorem passed_eq {a b:Int} (ha:-1000000000≤a∧a≤1000000000) (hb:-1000000000≤b∧b≤1000000000):tr_passed.f a b=some (decide (b / 21600 > a / 21600)):=by
 unfold tr_passed.f
 rw [down_eq (by decide) (by decide) (by omega),Option.bind_some,down_eq (by decide) (by decide) (by omega),Option.bind_some]
def isMoon (l:List S83) (half d:Int):Bool:=decide ((aheadOf l 1 0 d - half) / 21600 > (aheadOf l 1 0 (d - 1) - half) / 21600)
theorem new_ev {l:List S83} {p q n:Int} (h:okSky l p q n=true) {d:Int} (hd:1≤d∧d≤20000):Ev (fun k=>at_has_new.f k l p q n d) (isMoon l 0 d):=by
 have h2:=(ok_at h).1
 have b1:=ahead_bounds h 1 0 (by omega) (by omega) (d:=d) (by omega)
 have b2:=ahead_bounds h 1 0 (by omega) (by omega) (d:=d - 1) (by omega)
 unfold at_has_new.f isMoon
 rw [wrap_id (show -9223372036854775808≤d - 1∧d - 1≤9223372036854775807 by omega)]
 refine Ev.bind (lunar_ev h (by omega)) (Ev.bind (lunar_ev h (by omega)) (Ev.bind (Ev.is (passes_eq (by omega) (by omega))) ?_))
 simp only [Int.sub_zero]
 exact Ev.now _
theorem full_ev {l:List S83} {p q n:Int} (h:okSky l p q n=true) {d:Int} (hd:1≤d∧d≤20000):Ev (fun k=>at_has_full.f k l p q n d) (isMoon l 10800 d):=by
 have h2:=(ok_at h).1
 have b1:=ahead_bounds h 1 0 (by omega) (by omega) (d:=d) (by omega)
 have b2:=ahead_bounds h 1 0 (by omega) (by omega) (d:=d - 1) (by omega)
 unfold at_has_full.f isMoon
 rw [wrap_id (show -9223372036854775808≤d - 1∧d - 1≤9223372036854775807 by omega)]
 refine Ev.bind (lunar_ev h (by omega)) (Ev.bind (lunar_ev h (by omega)) ?_)
 rw [wrap_id (show -9223372036854775808≤aheadOf l 1 0 (d - 1) - 10800∧aheadOf l 1 0 (d - 1) - 10800≤9223372036854775807 by omega),wrap_id (show -9223372036854775808≤aheadOf l 1 0 d - 10800∧aheadOf l 1 0 d - 10800≤9223372036854775807 by omega)]
 exact Ev.bind (Ev.is (passes_eq (by omega) (by omega))) (Ev.now _)
theorem refMoon_eq {l:List S83} {p q n:Int} (h:okSky l p q n=true) {d:Int} (hd:1≤d∧d≤20000) (full:Bool):tr_Moon.f l p q n d full=some (isMoon l (if full=true then 10800 else 0) d):=by
 have h2:=(ok_at h).1
 have b1:=ahead_bounds h 1 0 (by omega) (by omega) (d:=d) (by omega)
 have b2:=ahead_bounds h 1 0 (by omega) (by omega) (d:=d - 1) (by omega)
 have e1:=refahead_eq h 1 0 (by omega) (by omega) (d:=d) (by omega)
 have e2:=refahead_eq h 1 0 (by omega) (by omega) (d:=d - 1) (by omega)
 rw [show ((1:Nat):Int)=1 from rfl,show ((0:Nat):Int)=0 from rfl] at e1 e2
 unfold tr_Moon.f isMoon
 rw [wrap_id (show -9223372036854775808≤d - 1∧d - 1≤9223372036854775807 by omega),e1,e2]
 simp only [Option.bind_some]
 cases full with
 |true=>
  rw [if_pos rfl,if_pos rfl,wrap_id (show -9223372036854775808≤aheadOf l 1 0 (d - 1) - 10800∧aheadOf l 1 0 (d - 1) - 10800≤9223372036854775807 by omega),wrap_id (show -9223372036854775808≤aheadOf l 1 0 d - 10800∧aheadOf l 1 0 d - 10800≤9223372036854775807 by omega),passed_eq (by omega) (by omega)]
  rfl
 |false=>
  rw [if_neg (by simp),if_neg (by simp),wrap_id (show -9223372036854775808≤aheadOf l 1 0 (d - 1) - 0∧aheadOf l 1 0 (d - 1) - 0≤9223372036854775807 by omega),wrap_id (show -9223372036854775808≤aheadOf l 1 0 d - 0∧aheadOf l 1 0 d - 0≤9223372036854775807 by omega),passed_eq (by omega) (by omega)]
  rfl
def moonOn (l:List S83) (d:Int):List S51:=(if isMoon l 0 d=true then [⟨d,false⟩] else []) ++ (if isMoon l 10800 d=true then [⟨d,true⟩] else [])
theorem Ev.all {α β:Type} (g:α→Nat→Option β) (r:α→β):∀ l:List α,(∀ d∈l,Ev (g d) (r d))→∃ K,∀ k,K≤k→∀ d∈l,g d k=Option.some (r d)
 |[],_=>⟨0,fun _ _ d h=>by cases h⟩
 |x :: t,h=>by
  obtain ⟨K1,h1⟩:=h x (List.mem_cons_self ..)
  obtain ⟨K2,h2⟩:=Ev.all g r t (fun d hd=>h d (List.mem_cons_of_mem _ hd))
  refine ⟨max K1 K2,fun k hk d hd=>?_⟩
  rcases List.mem_cons.mp hd with rfl|hd
  ·exact h1 k (by omega)
  ·exact h2 k (by omega) d hd
theorem span_of {a b:Int} (h:okSpan a b=true):1≤a∧a≤b∧b≤20000∧b - a≤800:=by
 simp only [okSpan,Bool.and_eq_true,okIn_iff,decide_eq_true_eq] at h
 omega
theorem moons_ev {l:List S83} {p q n:Int} (h:okSky l p q n=true) {lo hi:Int} (hs:okSpan lo hi=true):Ev (fun k=>sky_moons.f k l p q n lo hi) ((daysOf lo hi).flatMap (moonOn l)):=by
 have hsp:=span_of hs
 have hday:∀ d∈daysOf lo hi,1≤d∧d≤20000:=by
  intro d hd
  unfold daysOf at hd
  obtain ⟨j,hj,rfl⟩:=List.mem_map.mp hd
  have:=List.mem_range.mp hj
  omega
 obtain ⟨K1,h1⟩:=Ev.all (fun d k=>at_has_new.f k l p q n d) (fun d=>isMoon l 0 d) (daysOf lo hi) (fun d hd=>new_ev h (hday d hd))
 obtain ⟨K2,h2⟩:=Ev.all (fun d k=>at_has_full.f k l p q n d) (fun d=>isMoon l 10800 d) (daysOf lo hi) (fun d hd=>full_ev h (hday d hd))
 refine ⟨max K1 K2,fun k hk=>?_⟩
 show sky_moons.f k l p q n lo hi=_
 unfold sky_moons.f
 rw [if_pos ⟨by omega,by omega,by omega,fun d hd=>⟨by rw [h1 k (by omega) d hd];rfl,by rw [h2 k (by omega) d hd];rfl⟩⟩]
 congr 1
 rw [List.flatMap_def,List.flatMap_def]
 congr 1
 refine List.map_congr_left fun d hd=>?_
 unfold moonsAt moonOn
 rw [h1 k (by omega) d hd,h2 k (by omega) d hd]
 simp only [Option.some.injEq]
theorem moonOn_length (l:List S83) (d:Int):(moonOn l d).length≤2:=by
 unfold moonOn
 split <;> split <;> simp
theorem refMoons_loop {l:List S83} {p q n:Int} (h:okSky l p q n=true) {hi:Int} (hh:hi≤20000):∀ (m:Nat) (d:Int) (acc:List S51),1≤d→d+m=hi+1→acc.length+2*m≤1000000 →
  Ev (fun k=>tr_Moons.l0 k hi acc d l p q n) (acc ++ ((List.range m).map fun j:Nat=>d+(j:Nat)).flatMap (moonOn l))
 |0,d,acc,hd,hm,ha=>by
  refine Ev.step (fun k=>by rw [tr_Moons.l0]) ?_
  refine Ev.neg (by omega) ?_
  simp only [List.range_zero,List.map_nil,List.flatMap_nil,List.append_nil]
  exact Ev.now _
 |m+1,d,acc,hd,hm,ha=>by
  have hr:((List.range (m+1)).map fun j:Nat=>d+(j:Nat)).flatMap (moonOn l)=moonOn l d ++ ((List.range m).map fun j:Nat=>d+1+(j:Nat)).flatMap (moonOn l):=by
   rw [List.range_succ_eq_map,List.map_cons,List.flatMap_cons,List.map_map]
   congr 1
   ·simp
   ·congr 1
    refine List.map_congr_left fun j _=>?_
    simp only [Function.comp_apply,Nat.succ_eq_add_one]
    omega
  have ih:=fun acc' ha'=>refMoons_loop h hh m (d+1) acc' (by omega) (by omega) ha'
  refine Ev.step (fun k=>by rw [tr_Moons.l0]) ?_
  rw [wrap_id (show -9223372036854775808≤d+1∧d+1≤9223372036854775807 by omega),hr]
  refine Ev.pos (by omega) (Ev.bind (Ev.is (refMoon_eq h (by omega) false)) ?_)
  rw [if_neg (by simp)]
  have e2:=refMoon_eq h (d:=d) (by omega) true
  rw [if_pos rfl] at e2
  cases hn:isMoon l 0 d with
  |true=>
   refine Ev.pos rfl (Ev.pos (by omega) (Ev.bind (Ev.now _) (Ev.bind (Ev.is e2) ?_)))
   cases hf:isMoon l 10800 d with
   |true=>
    rw [show moonOn l d=[⟨d,false⟩,⟨d,true⟩] by unfold moonOn;rw [hn,hf];rfl]
    refine Ev.pos rfl (Ev.pos (by simp;omega) ?_)
    have:=ih (acc ++ [⟨d,false⟩] ++ [⟨d,true⟩]) (by simp;omega)
    simpa using this
   |false=>
    rw [show moonOn l d=[⟨d,false⟩] by unfold moonOn;rw [hn,hf];rfl]
    refine Ev.neg (by simp) ?_
    have:=ih (acc ++ [⟨d,false⟩]) (by simp;omega)
    simpa using this
  |false=>
   refine Ev.neg (by simp) (Ev.bind (Ev.is e2) ?_)
   cases hf:isMoon l 10800 d with
   |true=>
    rw [show moonOn l d=[⟨d,true⟩] by unfold moonOn;rw [hn,hf];rfl]
    refine Ev.pos rfl (Ev.pos (by omega) ?_)
    have:=ih (acc ++ [⟨d,true⟩]) (by simp;omega)
    simpa using this
   |false=>
    rw [show moonOn l d=[] by unfold moonOn;rw [hn,hf];rfl]
    refine Ev.neg (by simp) ?_
    have:=ih acc (by omega)
    simpa using this
theorem refMoons_ev {l:List S83} {p q n:Int} (h:okSky l p q n=true) {lo hi:Int} (hs:okSpan lo hi=true):Ev (fun k=>tr_Moons.f k l p q n lo hi) ((daysOf lo hi).flatMap (moonOn l)):=by
 have hsp:=span_of hs
 have:=refMoons_loop h (hi:=hi) (by omega) (hi+1 - lo).toNat lo [] (by omega) (by omega) (by simp;omega)
 unfold tr_Moons.f
 simpa [daysOf] using this
end Go.Proofs.YtaidphhkhddemaaGreatDoor.PSky
end
section
namespace Go.Proofs.YtaidphhkhddemaaGreatDoor.PSky
open Go.RowKit Go.Proofs.YtaidphhkhddemaaGreatDoorW.PrintWords Go.Proofs.YtaidphhkhddemaaGreatDoorW.PrintLast Go.Proofs.YtaidphhkhddemaaGreatDoorW.PrintMore
theorem known_ev:Ev (fun _=>tl_known.f.bind fun t=>some t) true:=Ev.now true
theorem Span_eq (a b:Int):tr_Span.f a b=some (okSpan a b):=isSpan_eq a b
theorem flat_length {l:List S83}:∀ ds:List Int,(ds.flatMap (moonOn l)).length≤2*ds.length
 |[]=>by simp
 |d :: ds=>by
  have:=moonOn_length l d
  have:=flat_length (l:=l) ds
  simp only [List.flatMap_cons,List.length_append,List.length_cons]
  omega
end Go.Proofs.YtaidphhkhddemaaGreatDoor.PSky
end
section
namespace Go.Proofs.YtaidphhkhddemaaGreatDoor.PSky
open Go.RowKit Go.Proofs.YtaidphhkhddemaaGreatDoorW.PrintWords Go.Proofs.YtaidphhkhddemaaGreatDoorW.PrintLast Go.Proofs.YtaidphhkhddemaaGreatDoorW.PrintMore
def nodeOf (p q n d:Int):Int:=(n - goneOf p q d) % 21600
def farOf (l:List S83) (p q n d:Int):Int:=mn ((wayOf (rd_T83 l ((1:Nat):Int)) d - nodeOf p q n d) % 10800) (10800 - (wayOf (rd_T83 l ((1:Nat):Int)) d - nodeOf p q n d) % 10800)
theorem place_of {n:Int} (h:okPlace n=true):0≤n∧n≤21599:=by simp only [okPlace,okIn_iff] at h;exact h
theorem node_eq {l:List S83} {p q n:Int} (hp:okPeriod p q=true) (hn:okPlace n=true) {d:Int} (hd:0≤d∧d≤20000):ss_node.f l p q n d=some (nodeOf p q n d):=by
 have hg:=gone_bounds hp hd
 have hs:=place_of hn
 unfold ss_node.f nodeOf
 rw [gone_eq l p q n hp hd,Option.bind_some,wrap_id (by omega),around_eq (by omega)]
 rfl
theorem refnode_eq {p q n:Int} (hp:okPeriod p q=true) (hn:okPlace n=true) {d:Int} (hd:0≤d∧d≤20000):tr_Node.f p q n d=some (nodeOf p q n d):=by
 have hg:=gone_bounds hp hd
 have hs:=place_of hn
 have hpp:=period_of hp
 unfold tr_Node.f nodeOf
 rw [if_neg (by omega),wrap_id (show -9223372036854775808≤d*21600∧d*21600≤9223372036854775807 by omega),wrap_id (show -9223372036854775808≤d*21600*q∧d*21600*q≤9223372036854775807 by omega),Int.tdiv_eq_ediv_of_nonneg hg.2.2.1]
 rw [show d*21600*q / p=goneOf p q d from rfl,wrap_id (show -9223372036854775808≤goneOf p q d∧goneOf p q d≤9223372036854775807 by omega),wrap_id (by omega),Less_eq (by omega)]
 rfl
theorem node_bounds (p q n d:Int):0≤nodeOf p q n d∧nodeOf p q n d<21600:=⟨Int.emod_nonneg _ (by decide),Int.emod_lt_of_pos _ (by decide)⟩
theorem far_ev {l:List S83} {p q n:Int} (h:okSky l p q n=true) {d:Int} (hd:0≤d∧d≤20000):Ev (fun k=>ss_far.f k l p q n d) (farOf l p q n d):=by
 obtain ⟨h2,-,hp,hn,hb⟩:=ok_at h
 have b1:=way_bounds (hb 1 (by omega)) hd
 have b2:=node_bounds p q n d
 unfold ss_far.f farOf
 refine Ev.bind (a:=wayOf (rd_T83 l ((1:Nat):Int)) d) ?_ (Ev.bind (Ev.is (node_eq hp hn hd)) ?_)
 ·unfold ss_moon.f
  exact Ev.bind (wayT_ev h 1 (by omega) hd) (Ev.now _)
 ·generalize wayOf (rd_T83 l ((1:Nat):Int)) d=x at b1 ⊢
  generalize nodeOf p q n d=y at b2 ⊢
  rw [wrap_id (show -9223372036854775808≤x - y∧x - y≤9223372036854775807 by omega)]
  refine Ev.bind (Ev.is (floor_eq (by decide) (by decide) (by omega))) ?_
  rw [wrap_id (by simp only;omega)]
  exact Ev.now _
theorem refplace_eq {b:S83} {d:Int} (h:okBody b=true) (hd:0≤d∧d≤20000):tr_Place.f b.f0.f0 b.f0.f1 b.f1 b.f2 d=some (wayOf b d % 21600):=by
 have b1:=way_bounds h hd
 unfold tr_Place.f
 rw [refway_eq h hd,Option.bind_some,Less_eq (by omega)]
 rfl
theorem reffar_eq {l:List S83} {p q n:Int} (h:okSky l p q n=true) {d:Int} (hd:0≤d∧d≤20000):tr_Far.f l p q n d=some (farOf l p q n d):=by
 obtain ⟨h2,-,hp,hn,hb⟩:=ok_at h
 have b1:=way_bounds (hb 1 (by omega)) hd
 have b2:=node_bounds p q n d
 have e1:=refplace_eq (hb 1 (by omega)) hd
 rw [show ((1:Nat):Int)=1 from rfl] at e1 b1
 unfold tr_Far.f farOf
 rw [if_pos (by omega),e1,Option.bind_some,refnode_eq hp hn hd,Option.bind_some,show ((1:Nat):Int)=1 from rfl]
 generalize wayOf (rd_T83 l 1) d=x at b1 ⊢
 generalize nodeOf p q n d=y at b2 ⊢
 rw [wrap_id (show -9223372036854775808≤x % 21600 - y∧x % 21600 - y≤9223372036854775807 by omega),Less_eq (by omega),Option.bind_some,Int.tmod_eq_emod_of_nonneg (by omega)]
 have e:(x % 21600 - y) % 21600 % 10800=(x - y) % 10800:=by omega
 rw [e,wrap_id (by omega)]
def eclOf (l:List S83) (p q n new full:Int) (m:S51):List S54:=if farOf l p q n m.f0≤(if m.f1=true then full else new) then [⟨m.f0,m.f1,farOf l p q n m.f0⟩] else []
theorem rdM_get (l:List S51) (i:Nat) (h:i<l.length):rd_T51 l (i:Int)=l[i]:=by unfold rd_T51;simp [h]
theorem ecl_loop {l:List S83} {p q n:Int} (h:okSky l p q n=true) (new full:Int) (ms:List S51) (hl:ms.length≤1000000) (hd:∀ m∈ms,0≤m.f0∧m.f0≤20000):∀ (m i:Nat) (acc:List S54),i+m=ms.length→acc.length≤i →
  Ev (fun k=>sky_Eclipses.l0 k new full acc ms (ms.length:Int) (i:Int) l p q n) (acc ++ (ms.drop i).flatMap (eclOf l p q n new full),0)
 |0,i,acc,hi,ha=>by
  rw [show i=ms.length by omega,List.drop_length]
  refine Ev.step (fun k=>by rw [sky_Eclipses.l0]) ?_
  refine Ev.neg (by omega) ?_
  simp only [List.flatMap_nil,List.append_nil]
  exact Ev.now _
 |m+1,i,acc,hi,ha=>by
  have hlt:i<ms.length:=by omega
  rw [List.drop_eq_getElem_cons hlt,List.flatMap_cons]
  have ih:=fun acc' ha'=>ecl_loop h new full ms hl hd m (i+1) acc' (by omega) ha'
  have hdi:=hd ms[i] (List.getElem_mem hlt)
  refine Ev.step (fun k=>by rw [sky_Eclipses.l0]) ?_
  rw [rdM_get ms i hlt,wrap_id (by omega)]
  generalize ms[i]=x at hdi ⊢
  refine Ev.pos (by omega) (Ev.pos (by omega) (Ev.pos (by omega) ?_))
  cases hx:x.f1 with
  |true=>
   by_cases hf:farOf l p q n x.f0≤full
   ·rw [show eclOf l p q n new full x=[⟨x.f0,true,farOf l p q n x.f0⟩] by unfold eclOf;rw [hx,if_pos rfl,if_pos hf]]
    refine Ev.pos rfl (Ev.bind (far_ev h hdi) (Ev.pos hf (Ev.pos (by omega) ?_)))
    have:=ih (acc ++ [⟨x.f0,true,farOf l p q n x.f0⟩]) (by simp;omega)
    simpa using this
   ·rw [show eclOf l p q n new full x=[] by unfold eclOf;rw [hx,if_pos rfl,if_neg hf]]
    refine Ev.pos rfl (Ev.bind (far_ev h hdi) (Ev.neg hf ?_))
    have:=ih acc (by omega)
    simpa using this
  |false=>
   by_cases hf:farOf l p q n x.f0≤new
   ·rw [show eclOf l p q n new full x=[⟨x.f0,false,farOf l p q n x.f0⟩] by unfold eclOf;rw [hx,if_neg (show ¬ (false=true) by simp),if_pos hf]]
    refine Ev.neg (by simp) (Ev.bind (far_ev h hdi) (Ev.pos hf (Ev.pos (by omega) ?_)))
    have:=ih (acc ++ [⟨x.f0,false,farOf l p q n x.f0⟩]) (by simp;omega)
    simpa using this
   ·rw [show eclOf l p q n new full x=[] by unfold eclOf;rw [hx,if_neg (show ¬ (false=true) by simp),if_neg hf]]
    refine Ev.neg (by simp) (Ev.bind (far_ev h hdi) (Ev.neg hf ?_))
    have:=ih acc (by omega)
    simpa using this
theorem refecl_loop {l:List S83} {p q n:Int} (h:okSky l p q n=true) (new full:Int) (ms:List S51) (hl:ms.length≤1000000) (hd:∀ m∈ms,0≤m.f0∧m.f0≤20000):∀ (m i:Nat) (acc:List S54),i+m=ms.length→acc.length≤i →
  Ev (fun k=>tr_Eclipses.l0 k new full acc ms (i:Int) l p q n) (acc ++ (ms.drop i).flatMap (eclOf l p q n new full))
 |0,i,acc,hi,ha=>by
  rw [show i=ms.length by omega,List.drop_length]
  refine Ev.step (fun k=>by rw [tr_Eclipses.l0]) ?_
  refine Ev.neg (by omega) ?_
  simp only [List.flatMap_nil,List.append_nil]
  exact Ev.now _
 |m+1,i,acc,hi,ha=>by
  have hlt:i<ms.length:=by omega
  rw [List.drop_eq_getElem_cons hlt,List.flatMap_cons]
  have ih:=fun acc' ha'=>refecl_loop h new full ms hl hd m (i+1) acc' (by omega) ha'
  have hdi:=hd ms[i] (List.getElem_mem hlt)
  refine Ev.step (fun k=>by rw [tr_Eclipses.l0]) ?_
  rw [rdM_get ms i hlt,wrap_id (by omega)]
  generalize ms[i]=x at hdi ⊢
  refine Ev.pos (by omega) (Ev.pos (by omega) (Ev.bind (Ev.is (reffar_eq h hdi)) ?_))
  cases hx:x.f1 with
  |true=>
   by_cases hf:farOf l p q n x.f0≤full
   ·rw [show eclOf l p q n new full x=[⟨x.f0,true,farOf l p q n x.f0⟩] by unfold eclOf;rw [hx,if_pos rfl,if_pos hf]]
    refine Ev.pos rfl (Ev.pos hf (Ev.pos (by omega) ?_))
    have:=ih (acc ++ [⟨x.f0,true,farOf l p q n x.f0⟩]) (by simp;omega)
    simpa using this
   ·rw [show eclOf l p q n new full x=[] by unfold eclOf;rw [hx,if_pos rfl,if_neg hf]]
    refine Ev.pos rfl (Ev.neg hf ?_)
    have:=ih acc (by omega)
    simpa using this
  |false=>
   by_cases hf:farOf l p q n x.f0≤new
   ·rw [show eclOf l p q n new full x=[⟨x.f0,false,farOf l p q n x.f0⟩] by unfold eclOf;rw [hx,if_neg (show ¬ (false=true) by simp),if_pos hf]]
    refine Ev.neg (by simp) (Ev.pos hf (Ev.pos (by omega) ?_))
    have:=ih (acc ++ [⟨x.f0,false,farOf l p q n x.f0⟩]) (by simp;omega)
    simpa using this
   ·rw [show eclOf l p q n new full x=[] by unfold eclOf;rw [hx,if_neg (show ¬ (false=true) by simp),if_neg hf]]
    refine Ev.neg (by simp) (Ev.neg hf ?_)
    have:=ih acc (by omega)
    simpa using this
theorem moonOn_days (l:List S83) (d:Int):∀ m∈moonOn l d,m.f0=d:=by
 intro m hm
 unfold moonOn at hm
 rcases List.mem_append.mp hm with h|h
 ·split at h
  ·rw [List.mem_singleton.mp h]
  ·cases h
 ·split at h
  ·rw [List.mem_singleton.mp h]
  ·cases h
theorem moons_days (l:List S83) {a b:Int} (_hs:okSpan a b=true):∀ m∈(daysOf a b).flatMap (moonOn l),a≤m.f0∧m.f0≤b:=by
 intro m hm
 obtain ⟨d,hd,hm⟩:=List.mem_flatMap.mp hm
 rw [moonOn_days l d m hm]
 unfold daysOf at hd
 obtain ⟨j,hj,rfl⟩:=List.mem_map.mp hd
 have:=List.mem_range.mp hj
 omega
theorem moonlist_length (l:List S83) {a b:Int} (hs:okSpan a b=true):((daysOf a b).flatMap (moonOn l)).length≤1602:=by
 have:=flat_length (l:=l) (daysOf a b)
 have hsp:=span_of hs
 have:(daysOf a b).length=(b+1 - a).toNat:=by simp [daysOf]
 omega
def okLimit (n:Int):Bool:=okIn n 0 5400
theorem isLimit_eq (n:Int):sky_isLimit.f n=some (okLimit n):=by unfold sky_isLimit.f;rw [in_eq];rfl
theorem Limit_eq (n:Int):tr_Limit.f n=some (okLimit n):=isLimit_eq n
def eclsOf (l:List S83) (p q n new full a b:Int):List S54:=((daysOf a b).flatMap (moonOn l)).flatMap (eclOf l p q n new full)
theorem Eclipses_ev (l:List S83) (p q n new full a b:Int):Ev (fun k=>sky_Eclipses.f k l p q n new full a b) (if okSky l p q n=true∧okLimit new=true∧okLimit full=true∧okSpan a b=true then (eclsOf l p q n new full a b,0) else ([],2)):=by
 have bad:∀ c:Bool,c=true→Ev (fun k=>sky_Eclipses.j0 k new full a b c l p q n) ([],2):=fun c hc=>by
  refine Ev.step (fun k=>by rw [sky_Eclipses.j0]) ?_
  exact Ev.pos hc (Ev.now _)
 unfold sky_Eclipses.f
 refine Ev.bind (isSky_ev l p q n) ?_
 cases h1:okSky l p q n with
 |false=>rw [if_neg (by simp)];exact Ev.neg (by simp) (bad _ rfl)
 |true=>
  refine Ev.pos rfl (Ev.bind (Ev.is (isLimit_eq new)) ?_)
  cases h2:okLimit new with
  |false=>rw [if_neg (by simp)];exact Ev.neg (by simp) (bad _ rfl)
  |true=>
   refine Ev.pos rfl (Ev.bind (Ev.is (isLimit_eq full)) ?_)
   cases h3:okLimit full with
   |false=>rw [if_neg (by simp)];exact Ev.neg (by simp) (bad _ rfl)
   |true=>
    refine Ev.pos rfl (Ev.bind (Ev.is (isSpan_eq a b)) ?_)
    cases h4:okSpan a b with
    |false=>rw [if_neg (by simp)];exact bad _ rfl
    |true=>
     rw [if_pos ⟨rfl,rfl,rfl,rfl⟩]
     refine Ev.step (fun k=>by rw [sky_Eclipses.j0]) ?_
     refine Ev.neg (by simp) (Ev.bind (moons_ev h1 h4) ?_)
     have hsp:=span_of h4
     have:=ecl_loop h1 new full ((daysOf a b).flatMap (moonOn l)) (by have:=moonlist_length l h4;omega) (fun m hm=>by have:=moons_days l h4 m hm;omega) ((daysOf a b).flatMap (moonOn l)).length 0 [] (Nat.zero_add _) (Nat.le_refl _)
     simpa [eclsOf] using this
theorem refEclipses_ev {l:List S83} {p q n:Int} (h1:okSky l p q n=true) (new full:Int) {a b:Int} (h4:okSpan a b=true):Ev (fun k=>tr_Eclipses.f k l p q n new full a b) (eclsOf l p q n new full a b):=by
 unfold tr_Eclipses.f
 refine Ev.bind (refMoons_ev h1 h4) ?_
 have hsp:=span_of h4
 have:=refecl_loop h1 new full ((daysOf a b).flatMap (moonOn l)) (by have:=moonlist_length l h4;omega) (fun m hm=>by have:=moons_days l h4 m hm;omega) ((daysOf a b).flatMap (moonOn l)).length 0 [] (Nat.zero_add _) (Nat.le_refl _)
 simpa [eclsOf] using this
theorem sameEcl_ev (l:List S54) (hl:l.length≤1000000):Ev (fun k=>tr_SameEclipses.f k l l) true:=by
 have key:∀ m i:Nat,i+m=l.length→Ev (fun k=>tr_SameEclipses.l0 k l l (i:Int)) true:=by
  intro m
  induction m with
  |zero=>
   intro i h
   refine Ev.step (fun k=>by rw [tr_SameEclipses.l0]) ?_
   exact Ev.neg (by omega) (Ev.now _)
  |succ m ih=>
   intro i h
   refine Ev.step (fun k=>by rw [tr_SameEclipses.l0]) ?_
   refine Ev.pos (by omega) (Ev.pos (by omega) (Ev.pos (by omega) (Ev.neg (by simp) ?_)))
   rw [wrap_id (by omega)]
   exact ih (i+1) (by omega)
 unfold tr_SameEclipses.f
 exact Ev.pos rfl (key l.length 0 (by omega))
theorem eclOf_length (l:List S83) (p q n new full:Int):∀ ms:List S51,(ms.flatMap (eclOf l p q n new full)).length≤ms.length
 |[]=>by simp
 |m :: ms=>by
  have:=eclOf_length l p q n new full ms
  have h1:(eclOf l p q n new full m).length≤1:=by
   unfold eclOf
   by_cases hc:farOf l p q n m.f0≤(if m.f1=true then full else new)
   ·rw [if_pos hc]
    simp
   ·rw [if_neg hc]
    simp
  simp only [List.flatMap_cons,List.length_append,List.length_cons]
  omega
end Go.Proofs.YtaidphhkhddemaaGreatDoor.PSky
end
section
namespace Go.Proofs.YtaidphhkhddemaaGreatDoor.PSky
open Go.RowKit Go.Proofs.YtaidphhkhddemaaGreatDoorW.PrintWords Go.Proofs.YtaidphhkhddemaaGreatDoorW.PrintLast Go.Proofs.YtaidphhkhddemaaGreatDoorW.PrintMore
attribute [local go_sem] max2_int min2_int max_two min_two max_three min_three max_four min_four
set_option linter.unusedVariables false
set_option linter.unusedSimpArgs false
def tl_SkyEclipses.j0:Nat→Int→Int→Int→Int→List (S54)→Int→Bool→List (S83)→Int→Int→Int→Option (Bool)
 |0,_,_,_,_,_,_,_,_,_,_,_=>none
 |k+1,x1,x2,x3,x4,x11,x12,x44,x295000,x295001,x295002,x295003=>if x44=true then (if x12=2 then (if (x11.length:Int)=0 then ((tl_known.f).bind fun t305=>(some t305)) else (some false)) else (some false)) else (if x12=0 then ((tr_Eclipses.f k x295000 x295001 x295002 x295003 x1 x2 x3 x4).bind fun t306=>((tr_SameEclipses.f k x11 t306).bind fun t309=>(if t309=true then ((tl_known.f).bind fun t310=>(some t310)) else (some false)))) else (some false))
def tl_SkyEclipses.f (k:Nat) (l0_0:List (S83)) (a0_1:Int) (a0_2:Int) (a0_3:Int) (a1:Int) (a2:Int) (a3:Int) (a4:Int):Option (Bool):=(tl_short.f k l0_0 a0_1 a0_2 a0_3).bind fun t295=>(if t295=true then ((sky_Eclipses.f k l0_0 a0_1 a0_2 a0_3 a1 a2 a3 a4).bind fun bt297=>((tr_Sky.f k l0_0 a0_1 a0_2 a0_3).bind fun t301=>(if t301=true then ((tr_Limit.f a1).bind fun t302=>(if t302=true then ((tr_Limit.f a2).bind fun t303=>(if t303=true then ((tr_Span.f a3 a4).bind fun t304=>(tl_SkyEclipses.j0 k a1 a2 a3 a4 bt297.1 bt297.2 (!t304) l0_0 a0_1 a0_2 a0_3)) else (tl_SkyEclipses.j0 k a1 a2 a3 a4 bt297.1 bt297.2 true l0_0 a0_1 a0_2 a0_3))) else (tl_SkyEclipses.j0 k a1 a2 a3 a4 bt297.1 bt297.2 true l0_0 a0_1 a0_2 a0_3))) else (tl_SkyEclipses.j0 k a1 a2 a3 a4 bt297.1 bt297.2 true l0_0 a0_1 a0_2 a0_3)))) else ((tl_known.f).bind fun t296=>(some t296)))
set_option maxHeartbeats 8000000 in
set_option maxRecDepth 100000 in
theorem tl_SkyEclipses.calls (k:Nat) (A0_0:Option Addr) (c0_0:Nat) (l0_0:List (S83)) (a0_1:Int) (a0_2:Int) (a0_3:Int) (a1:Int) (a2:Int) (a3:Int) (a4:Int) (r:Bool) (w:World) (hr0_0:Kd.C k83 w A0_0 l0_0.length l0_0) (hc0_0:l0_0.length≤c0_0) (h:tl_SkyEclipses.f k l0_0 a0_1 a0_2 a0_3 a1 a2 a3 a4=some r) (hLD:LD w):
  Calls Tryz.prog 4 #[.agg #[.slice A0_0 l0_0.length c0_0,.int .i64 a0_1,.int .i64 a0_2,.int .i64 a0_3],.int .i64 a1,.int .i64 a2,.int .i64 a3,.int .i64 a4] w fun e w'=>e=.returned (.bool r)∧Below w.heap.size w w':=by
 have HLD:=A0_ hLD;clear hLD
 have hu28:=Tryz.underlying28
 have HR0_0:=A0_ hr0_0;have HC0_0:=A0_ hc0_0;clear hr0_0 hc0_0
 have HB:=A0_ (Below.refl w.heap.size w)
 have H:((tl_short.f k l0_0 a0_1 a0_2 a0_3).bind fun t295=>(if t295=true then ((sky_Eclipses.f k l0_0 a0_1 a0_2 a0_3 a1 a2 a3 a4).bind fun bt297=>((tr_Sky.f k l0_0 a0_1 a0_2 a0_3).bind fun t301=>(if t301=true then ((tr_Limit.f a1).bind fun t302=>(if t302=true then ((tr_Limit.f a2).bind fun t303=>(if t303=true then ((tr_Span.f a3 a4).bind fun t304=>(tl_SkyEclipses.j0 k a1 a2 a3 a4 bt297.1 bt297.2 (!t304) l0_0 a0_1 a0_2 a0_3)) else (tl_SkyEclipses.j0 k a1 a2 a3 a4 bt297.1 bt297.2 true l0_0 a0_1 a0_2 a0_3))) else (tl_SkyEclipses.j0 k a1 a2 a3 a4 bt297.1 bt297.2 true l0_0 a0_1 a0_2 a0_3))) else (tl_SkyEclipses.j0 k a1 a2 a3 a4 bt297.1 bt297.2 true l0_0 a0_1 a0_2 a0_3)))) else ((tl_known.f).bind fun t296=>(some t296))))=some r:=h
 clear h;replace H:=Option.bind_eq_some_iff.mp H;obtain ⟨t295,A60,H⟩:=H
 replace H:(if t295=true then ((sky_Eclipses.f k l0_0 a0_1 a0_2 a0_3 a1 a2 a3 a4).bind fun bt297=>((tr_Sky.f k l0_0 a0_1 a0_2 a0_3).bind fun t301=>(if t301=true then ((tr_Limit.f a1).bind fun t302=>(if t302=true then ((tr_Limit.f a2).bind fun t303=>(if t303=true then ((tr_Span.f a3 a4).bind fun t304=>(tl_SkyEclipses.j0 k a1 a2 a3 a4 bt297.1 bt297.2 (!t304) l0_0 a0_1 a0_2 a0_3)) else (tl_SkyEclipses.j0 k a1 a2 a3 a4 bt297.1 bt297.2 true l0_0 a0_1 a0_2 a0_3))) else (tl_SkyEclipses.j0 k a1 a2 a3 a4 bt297.1 bt297.2 true l0_0 a0_1 a0_2 a0_3))) else (tl_SkyEclipses.j0 k a1 a2 a3 a4 bt297.1 bt297.2 true l0_0 a0_1 a0_2 a0_3)))) else ((tl_known.f).bind fun t296=>(some t296)))=some r:=H
 have A6:=A0_ A60;clear A60
 by_cases c7:t295=true
 ·subst c7
  have H1:((sky_Eclipses.f k l0_0 a0_1 a0_2 a0_3 a1 a2 a3 a4).bind fun bt297=>((tr_Sky.f k l0_0 a0_1 a0_2 a0_3).bind fun t301=>(if t301=true then ((tr_Limit.f a1).bind fun t302=>(if t302=true then ((tr_Limit.f a2).bind fun t303=>(if t303=true then ((tr_Span.f a3 a4).bind fun t304=>(tl_SkyEclipses.j0 k a1 a2 a3 a4 bt297.1 bt297.2 (!t304) l0_0 a0_1 a0_2 a0_3)) else (tl_SkyEclipses.j0 k a1 a2 a3 a4 bt297.1 bt297.2 true l0_0 a0_1 a0_2 a0_3))) else (tl_SkyEclipses.j0 k a1 a2 a3 a4 bt297.1 bt297.2 true l0_0 a0_1 a0_2 a0_3))) else (tl_SkyEclipses.j0 k a1 a2 a3 a4 bt297.1 bt297.2 true l0_0 a0_1 a0_2 a0_3))))=some r:=by rw [if_pos rfl] at H;exact H
  clear H;have H:=H1;clear H1;replace H:=Option.bind_eq_some_iff.mp H
  obtain ⟨⟨t297,t300⟩,A80,H⟩:=H
  replace H:((tr_Sky.f k l0_0 a0_1 a0_2 a0_3).bind fun t301=>(if t301=true then ((tr_Limit.f a1).bind fun t302=>(if t302=true then ((tr_Limit.f a2).bind fun t303=>(if t303=true then ((tr_Span.f a3 a4).bind fun t304=>(tl_SkyEclipses.j0 k a1 a2 a3 a4 t297 t300 (!t304) l0_0 a0_1 a0_2 a0_3)) else (tl_SkyEclipses.j0 k a1 a2 a3 a4 t297 t300 true l0_0 a0_1 a0_2 a0_3))) else (tl_SkyEclipses.j0 k a1 a2 a3 a4 t297 t300 true l0_0 a0_1 a0_2 a0_3))) else (tl_SkyEclipses.j0 k a1 a2 a3 a4 t297 t300 true l0_0 a0_1 a0_2 a0_3)))=some r:=H
  have A8:=A0_ A80;clear A80;have HC9:=A0_ H;clear H
  go_enter Tryz.func4,Tryz.ntmps4
  go_upto_region 4 with (first|((with_reducible refine gate_dst (N:=5) rfl ?_);(try (refine gate_guard (by rfl) ?_;dsimp only));refine box_event ?hg (N:=5) ?hd (cs:=#[.slice A0_0 l0_0.length c0_0,.int .i64 a0_1,.int .i64 a0_2,.int .i64 a0_3]) (t:=28) ?hr ?_;(case hd=>rfl);(case hg=>rfl);(case hr=>first|(go_simp;done)|(go_simp;rfl));intro gb294 hg w10 hbox hb;have n0_:=A0_ (below_step y0_ hb);have n1_:=A0_ (hbox);have n2_:=A0_ ((by rw [hg];exact (below_size y0_):w.heap.size≤gb294));have n3_:=A0_ ((by rw [hg];exact (below_size y0_):w.heap.size≤gb294));clear HB;have HB:=n0_;have BK294:=n1_;have GW294:=n2_;have GE294:=n3_;clear n0_ n1_ n2_ n3_;clear hb hbox hg;obtain ⟨hcz11_0,hcz11_1,hcz11_2,hcz11_3,hfz11_0,hfz11_1,hfz11_2,hfz11_3⟩:=bq4_ BK294.out)|((with_reducible refine gate_callee (f:=10) rfl ?_);refine goesL_ (some 14) rfl rfl Tryz.func10 (by kernel_rfl) rfl #[.agg #[.slice A0_0 l0_0.length c0_0,.int .i64 a0_1,.int .i64 a0_2,.int .i64 a0_3]] rfl y1_ ?_;(with_reducible refine (tl_short.calls k _ _ l0_0 a0_1 a0_2 a0_3 true _ ?side1 ?side2 A6.out).mono ?_);(case side1=>repeat (first|exact (Kd.C_below HR0_0.out HB.out)|(with_reducible refine Kd.C_alloc ?_ _)|(with_reducible refine Kd.C_drewN ?_ _)|(with_reducible refine Kd.C_drew ?_)));(case side2=>exact HC0_0.out);rintro e w12 ⟨rfl,hb⟩;refine ⟨_,rfl,?_⟩;have n0_:=A0_ (blk_below (g:=gb294) (o:=.cells #[.slice A0_0 l0_0.length c0_0,.int .i64 a0_1,.int .i64 a0_2,.int .i64 a0_3] 28 (0,0)) (bd_ BK294.out) hb);have n1_:=A0_ (below_step y9_ hb);clear BK294;clear HB;have BK294:=n0_;have HB:=n1_;clear n0_ n1_;(try clear hb);(try clear hb2);(try clear hk);(try clear hi);obtain ⟨hcz13_0,hcz13_1,hcz13_2,hcz13_3,hfz13_0,hfz13_1,hfz13_2,hfz13_3⟩:=bq4_ BK294.out)|((with_reducible refine gate_callee (f:=17) rfl ?_);refine goesL_ (some 23) rfl rfl Tryz.func17 (by kernel_rfl) rfl #[.agg #[.slice A0_0 l0_0.length c0_0,.int .i64 a0_1,.int .i64 a0_2,.int .i64 a0_3],.int .i64 a1,.int .i64 a2,.int .i64 a3,.int .i64 a4] rfl y1_ ?_;(with_reducible refine (sky_Eclipses.calls k _ _ l0_0 a0_1 a0_2 a0_3 a1 a2 a3 a4 t297 t300 _ ?side1 ?side2 A8.out).mono ?_);(case side1=>repeat (first|exact (Kd.C_below HR0_0.out HB.out)|(with_reducible refine Kd.C_alloc ?_ _)|(with_reducible refine Kd.C_drewN ?_ _)|(with_reducible refine Kd.C_drew ?_)));(case side2=>exact HC0_0.out);rintro e w14 ⟨v298,rfl,ho0,hb⟩;refine ⟨_,rfl,?_⟩;have n0_:=A0_ (Kd.R_lower ho0 (below_size y9_));have n1_:=A0_ (blk_below (g:=gb294) (o:=.cells #[.slice A0_0 l0_0.length c0_0,.int .i64 a0_1,.int .i64 a0_2,.int .i64 a0_3] 28 (0,0)) (bd_ BK294.out) hb);have n2_:=A0_ (below_step y9_ hb);clear BK294;clear HB;have HO299:=n0_;have BK294:=n1_;have HB:=n2_;clear n0_ n1_ n2_;(try clear hb);(try clear hb2);(try clear hk);(try clear hi);(try clear ho0)))
  (try simp only [Act.put,List.setIfInBounds_toArray,List.set_cons_zero,List.set_cons_succ])
  go_cut [44] (fun v44 wc=>∃ (kq:Nat) (x44_8:Bool),v44=.bool x44_8∧Aside0 (tl_SkyEclipses.j0 kq a1 a2 a3 a4 t297 t300 x44_8 l0_0 a0_1 a0_2 a0_3=some r)∧Aside0 (kq≤k)∧Aside0 (Kd.R k54 54 wc w.heap.size (fun _=>True) v298 t297)∧Aside0 (wc.heap[gb294]?=some (.cells #[(.slice A0_0 l0_0.length c0_0),.int .i64 a0_1,.int .i64 a0_2,.int .i64 a0_3] 28 (0,0)))∧Aside0 (Below w.heap.size w wc))
  case first=>
   have H:=HC9.out
   clear HC9;replace H:=Option.bind_eq_some_iff.mp H;obtain ⟨t301,A150,H⟩:=H
   replace H:(if t301=true then ((tr_Limit.f a1).bind fun t302=>(if t302=true then ((tr_Limit.f a2).bind fun t303=>(if t303=true then ((tr_Span.f a3 a4).bind fun t304=>(tl_SkyEclipses.j0 k a1 a2 a3 a4 t297 t300 (!t304) l0_0 a0_1 a0_2 a0_3)) else (tl_SkyEclipses.j0 k a1 a2 a3 a4 t297 t300 true l0_0 a0_1 a0_2 a0_3))) else (tl_SkyEclipses.j0 k a1 a2 a3 a4 t297 t300 true l0_0 a0_1 a0_2 a0_3))) else (tl_SkyEclipses.j0 k a1 a2 a3 a4 t297 t300 true l0_0 a0_1 a0_2 a0_3))=some r:=H
   have A15:=A0_ A150;clear A150
   by_cases c16:t301=true
   ·subst c16
    have H1:((tr_Limit.f a1).bind fun t302=>(if t302=true then ((tr_Limit.f a2).bind fun t303=>(if t303=true then ((tr_Span.f a3 a4).bind fun t304=>(tl_SkyEclipses.j0 k a1 a2 a3 a4 t297 t300 (!t304) l0_0 a0_1 a0_2 a0_3)) else (tl_SkyEclipses.j0 k a1 a2 a3 a4 t297 t300 true l0_0 a0_1 a0_2 a0_3))) else (tl_SkyEclipses.j0 k a1 a2 a3 a4 t297 t300 true l0_0 a0_1 a0_2 a0_3)))=some r:=by rw [if_pos rfl] at H;exact H
    clear H;have H:=H1;clear H1;replace H:=Option.bind_eq_some_iff.mp H;obtain ⟨t302,A170,H⟩:=H
    replace H:(if t302=true then ((tr_Limit.f a2).bind fun t303=>(if t303=true then ((tr_Span.f a3 a4).bind fun t304=>(tl_SkyEclipses.j0 k a1 a2 a3 a4 t297 t300 (!t304) l0_0 a0_1 a0_2 a0_3)) else (tl_SkyEclipses.j0 k a1 a2 a3 a4 t297 t300 true l0_0 a0_1 a0_2 a0_3))) else (tl_SkyEclipses.j0 k a1 a2 a3 a4 t297 t300 true l0_0 a0_1 a0_2 a0_3))=some r:=H
    have A17:=A0_ A170;clear A170
    by_cases c18:t302=true
    ·subst c18
     have H1:((tr_Limit.f a2).bind fun t303=>(if t303=true then ((tr_Span.f a3 a4).bind fun t304=>(tl_SkyEclipses.j0 k a1 a2 a3 a4 t297 t300 (!t304) l0_0 a0_1 a0_2 a0_3)) else (tl_SkyEclipses.j0 k a1 a2 a3 a4 t297 t300 true l0_0 a0_1 a0_2 a0_3)))=some r:=by rw [if_pos rfl] at H;exact H
     clear H;have H:=H1;clear H1;replace H:=Option.bind_eq_some_iff.mp H;obtain ⟨t303,A190,H⟩:=H
     replace H:(if t303=true then ((tr_Span.f a3 a4).bind fun t304=>(tl_SkyEclipses.j0 k a1 a2 a3 a4 t297 t300 (!t304) l0_0 a0_1 a0_2 a0_3)) else (tl_SkyEclipses.j0 k a1 a2 a3 a4 t297 t300 true l0_0 a0_1 a0_2 a0_3))=some r:=H
     have A19:=A0_ A190;clear A190
     by_cases c20:t303=true
     ·subst c20
      have H1:((tr_Span.f a3 a4).bind fun t304=>(tl_SkyEclipses.j0 k a1 a2 a3 a4 t297 t300 (!t304) l0_0 a0_1 a0_2 a0_3))=some r:=by rw [if_pos rfl] at H;exact H
      clear H;have H:=H1;clear H1;replace H:=Option.bind_eq_some_iff.mp H;obtain ⟨t304,A210,H⟩:=H
      replace H:(tl_SkyEclipses.j0 k a1 a2 a3 a4 t297 t300 (!t304) l0_0 a0_1 a0_2 a0_3)=some r:=H
      have A21:=A0_ A210;clear A210
      have H':=A0_ H
      clear H;obtain ⟨hcz22_0,hcz22_1,hcz22_2,hcz22_3,hfz22_0,hfz22_1,hfz22_2,hfz22_3⟩:=bq4_ BK294.out
      go_wp2_with (first|((with_reducible refine gate_callee (f:=13) rfl ?_);refine goesL_ (some 27) rfl rfl Tryz.func13 (by kernel_rfl) rfl #[.agg #[.slice A0_0 l0_0.length c0_0,.int .i64 a0_1,.int .i64 a0_2,.int .i64 a0_3]] rfl y1_ ?_;(with_reducible refine (tr_Sky.calls k _ _ l0_0 a0_1 a0_2 a0_3 true _ ?side1 ?side2 A15.out).mono ?_);(case side1=>repeat (first|exact (Kd.C_below HR0_0.out HB.out)|(with_reducible refine Kd.C_alloc ?_ _)|(with_reducible refine Kd.C_drewN ?_ _)|(with_reducible refine Kd.C_drew ?_)));(case side2=>exact HC0_0.out);rintro e w23 ⟨rfl,hb⟩;refine ⟨_,rfl,?_⟩;have n0_:=A0_ (Kd.R_below (rd_ HO299.out) hb);have n1_:=A0_ (blk_below (g:=gb294) (o:=.cells #[.slice A0_0 l0_0.length c0_0,.int .i64 a0_1,.int .i64 a0_2,.int .i64 a0_3] 28 (0,0)) (bd_ BK294.out) hb);have n2_:=A0_ (below_step y9_ hb);clear HO299;clear BK294;clear HB;have HO299:=n0_;have BK294:=n1_;have HB:=n2_;clear n0_ n1_ n2_;(try clear hb);(try clear hb2);(try clear hk);(try clear hi))|(go_at_call 18;(with_reducible refine (tr_Limit.calls a1 true _ A17.out).mono ?_);rintro e w' ⟨rfl,⟨nd,rfl⟩⟩)|(go_at_call 18;(with_reducible refine (tr_Limit.calls a2 true _ A19.out).mono ?_);rintro e w' ⟨rfl,⟨nd,rfl⟩⟩)|(go_at_call 14;(with_reducible refine (tr_Span.calls a3 a4 t304 _ A21.out).mono ?_);rintro e w' ⟨rfl,⟨nd,rfl⟩⟩))
      go_meet
      case rel=>exact ⟨_,(!t304),y4_,H',⟨by first|omega|exact Nat.le_refl _⟩,⟨by (with_reducible repeat (first|apply Kd.R_alloc|apply Kd.R_drewN|apply Kd.R_drew));exact HO299.out⟩,⟨by (with_reducible repeat (first|refine blk_drewN ?_ _|refine blk_drew ?_|refine blk_alloc ?_ _));exact BK294.out⟩,⟨y9_⟩⟩
     ·replace c20:=Bool.eq_false_iff.mpr c20;subst c20
      have H1:(tl_SkyEclipses.j0 k a1 a2 a3 a4 t297 t300 true l0_0 a0_1 a0_2 a0_3)=some r:=by rw [if_neg (show ¬ (false=true) by decide)] at H;exact H
      clear H;have H:=H1;clear H1
      have H':=A0_ H
      clear H;obtain ⟨hcz24_0,hcz24_1,hcz24_2,hcz24_3,hfz24_0,hfz24_1,hfz24_2,hfz24_3⟩:=bq4_ BK294.out
      go_wp2_with (first|((with_reducible refine gate_callee (f:=13) rfl ?_);refine goesL_ (some 27) rfl rfl Tryz.func13 (by kernel_rfl) rfl #[.agg #[.slice A0_0 l0_0.length c0_0,.int .i64 a0_1,.int .i64 a0_2,.int .i64 a0_3]] rfl y1_ ?_;(with_reducible refine (tr_Sky.calls k _ _ l0_0 a0_1 a0_2 a0_3 true _ ?side1 ?side2 A15.out).mono ?_);(case side1=>repeat (first|exact (Kd.C_below HR0_0.out HB.out)|(with_reducible refine Kd.C_alloc ?_ _)|(with_reducible refine Kd.C_drewN ?_ _)|(with_reducible refine Kd.C_drew ?_)));(case side2=>exact HC0_0.out);rintro e w25 ⟨rfl,hb⟩;refine ⟨_,rfl,?_⟩;have n0_:=A0_ (Kd.R_below (rd_ HO299.out) hb);have n1_:=A0_ (blk_below (g:=gb294) (o:=.cells #[.slice A0_0 l0_0.length c0_0,.int .i64 a0_1,.int .i64 a0_2,.int .i64 a0_3] 28 (0,0)) (bd_ BK294.out) hb);have n2_:=A0_ (below_step y9_ hb);clear HO299;clear BK294;clear HB;have HO299:=n0_;have BK294:=n1_;have HB:=n2_;clear n0_ n1_ n2_;(try clear hb);(try clear hb2);(try clear hk);(try clear hi))|(go_at_call 18;(with_reducible refine (tr_Limit.calls a1 true _ A17.out).mono ?_);rintro e w' ⟨rfl,⟨nd,rfl⟩⟩)|(go_at_call 18;(with_reducible refine (tr_Limit.calls a2 false _ A19.out).mono ?_);rintro e w' ⟨rfl,⟨nd,rfl⟩⟩))
      go_meet
      case rel=>exact ⟨_,(true),y4_,H',⟨by first|omega|exact Nat.le_refl _⟩,⟨by (with_reducible repeat (first|apply Kd.R_alloc|apply Kd.R_drewN|apply Kd.R_drew));exact HO299.out⟩,⟨by (with_reducible repeat (first|refine blk_drewN ?_ _|refine blk_drew ?_|refine blk_alloc ?_ _));exact BK294.out⟩,⟨y9_⟩⟩
    ·replace c18:=Bool.eq_false_iff.mpr c18;subst c18
     have H1:(tl_SkyEclipses.j0 k a1 a2 a3 a4 t297 t300 true l0_0 a0_1 a0_2 a0_3)=some r:=by rw [if_neg (show ¬ (false=true) by decide)] at H;exact H
     clear H;have H:=H1;clear H1
     have H':=A0_ H
     clear H;obtain ⟨hcz26_0,hcz26_1,hcz26_2,hcz26_3,hfz26_0,hfz26_1,hfz26_2,hfz26_3⟩:=bq4_ BK294.out
     go_wp2_with (first|((with_reducible refine gate_callee (f:=13) rfl ?_);refine goesL_ (some 27) rfl rfl Tryz.func13 (by kernel_rfl) rfl #[.agg #[.slice A0_0 l0_0.length c0_0,.int .i64 a0_1,.int .i64 a0_2,.int .i64 a0_3]] rfl y1_ ?_;(with_reducible refine (tr_Sky.calls k _ _ l0_0 a0_1 a0_2 a0_3 true _ ?side1 ?side2 A15.out).mono ?_);(case side1=>repeat (first|exact (Kd.C_below HR0_0.out HB.out)|(with_reducible refine Kd.C_alloc ?_ _)|(with_reducible refine Kd.C_drewN ?_ _)|(with_reducible refine Kd.C_drew ?_)));(case side2=>exact HC0_0.out);rintro e w27 ⟨rfl,hb⟩;refine ⟨_,rfl,?_⟩;have n0_:=A0_ (Kd.R_below (rd_ HO299.out) hb);have n1_:=A0_ (blk_below (g:=gb294) (o:=.cells #[.slice A0_0 l0_0.length c0_0,.int .i64 a0_1,.int .i64 a0_2,.int .i64 a0_3] 28 (0,0)) (bd_ BK294.out) hb);have n2_:=A0_ (below_step y9_ hb);clear HO299;clear BK294;clear HB;have HO299:=n0_;have BK294:=n1_;have HB:=n2_;clear n0_ n1_ n2_;(try clear hb);(try clear hb2);(try clear hk);(try clear hi))|(go_at_call 18;(with_reducible refine (tr_Limit.calls a1 false _ A17.out).mono ?_);rintro e w' ⟨rfl,⟨nd,rfl⟩⟩))
     go_meet
     case rel=>exact ⟨_,(true),y4_,H',⟨by first|omega|exact Nat.le_refl _⟩,⟨by (with_reducible repeat (first|apply Kd.R_alloc|apply Kd.R_drewN|apply Kd.R_drew));exact HO299.out⟩,⟨by (with_reducible repeat (first|refine blk_drewN ?_ _|refine blk_drew ?_|refine blk_alloc ?_ _));exact BK294.out⟩,⟨y9_⟩⟩
   ·replace c16:=Bool.eq_false_iff.mpr c16;subst c16
    have H1:(tl_SkyEclipses.j0 k a1 a2 a3 a4 t297 t300 true l0_0 a0_1 a0_2 a0_3)=some r:=by rw [if_neg (show ¬ (false=true) by decide)] at H;exact H
    clear H;have H:=H1;clear H1
    have H':=A0_ H
    clear H;obtain ⟨hcz28_0,hcz28_1,hcz28_2,hcz28_3,hfz28_0,hfz28_1,hfz28_2,hfz28_3⟩:=bq4_ BK294.out
    go_wp2_with (first|((with_reducible refine gate_callee (f:=13) rfl ?_);refine goesL_ (some 27) rfl rfl Tryz.func13 (by kernel_rfl) rfl #[.agg #[.slice A0_0 l0_0.length c0_0,.int .i64 a0_1,.int .i64 a0_2,.int .i64 a0_3]] rfl y1_ ?_;(with_reducible refine (tr_Sky.calls k _ _ l0_0 a0_1 a0_2 a0_3 false _ ?side1 ?side2 A15.out).mono ?_);(case side1=>repeat (first|exact (Kd.C_below HR0_0.out HB.out)|(with_reducible refine Kd.C_alloc ?_ _)|(with_reducible refine Kd.C_drewN ?_ _)|(with_reducible refine Kd.C_drew ?_)));(case side2=>exact HC0_0.out);rintro e w29 ⟨rfl,hb⟩;refine ⟨_,rfl,?_⟩;have n0_:=A0_ (Kd.R_below (rd_ HO299.out) hb);have n1_:=A0_ (blk_below (g:=gb294) (o:=.cells #[.slice A0_0 l0_0.length c0_0,.int .i64 a0_1,.int .i64 a0_2,.int .i64 a0_3] 28 (0,0)) (bd_ BK294.out) hb);have n2_:=A0_ (below_step y9_ hb);clear HO299;clear BK294;clear HB;have HO299:=n0_;have BK294:=n1_;have HB:=n2_;clear n0_ n1_ n2_;(try clear hb);(try clear hb2);(try clear hk);(try clear hi)))
    go_meet
    case rel=>exact ⟨_,(true),y4_,H',⟨by first|omega|exact Nat.le_refl _⟩,⟨by (with_reducible repeat (first|apply Kd.R_alloc|apply Kd.R_drewN|apply Kd.R_drew));exact HO299.out⟩,⟨by (with_reducible repeat (first|refine blk_drewN ?_ _|refine blk_drew ?_|refine blk_alloc ?_ _));exact BK294.out⟩,⟨y9_⟩⟩
  case rest=>
   clear HC9;(try clear c1);(try clear c2);(try clear p2);(try clear c4);(try clear c7);(try clear c10);(try clear c13);(try clear c16);(try clear c17);(try clear c18);(try clear c20);(try clear hcz11_0);(try clear hcz11_1);(try clear hcz11_2);(try clear hcz11_3);(try clear hcz13_0);(try clear hcz13_1);(try clear hcz13_2);(try clear hcz13_3);(try clear hcz22_0);(try clear hcz22_1);(try clear hcz22_2);(try clear hcz22_3);(try clear hcz24_0);(try clear hcz24_1);(try clear hcz24_2);(try clear hcz24_3);(try clear hcz26_0);(try clear hcz26_1);(try clear hcz26_2);(try clear hcz26_3);(try clear hcz28_0);(try clear hcz28_1);(try clear hcz28_2);(try clear hcz28_3);(try clear hfz11_0);(try clear hfz11_1);(try clear hfz11_2);(try clear hfz11_3);(try clear hfz13_0);(try clear hfz13_1);(try clear hfz13_2);(try clear hfz13_3);(try clear hfz22_0);(try clear hfz22_1);(try clear hfz22_2);(try clear hfz22_3);(try clear hfz24_0);(try clear hfz24_1);(try clear hfz24_2);(try clear hfz24_3);(try clear hfz26_0);(try clear hfz26_1);(try clear hfz26_2);(try clear hfz26_3);(try clear hfz28_0);(try clear hfz28_1);(try clear hfz28_2);(try clear hfz28_3)
   obtain ⟨kq,x44_8,rfl,HA,HJ8,HO_11,BK294,HB⟩:=hcut
   cases kq with
   |zero=>exact absurd HA.out (by simp [tl_SkyEclipses.j0])
   |succ kj8=>
    have H:=HA.out
    clear HA
    simp only [tl_SkyEclipses.j0] at H
    by_cases c30:x44_8=true
    ·subst c30
     have H1:(if t300=2 then (if (t297.length:Int)=0 then ((tl_known.f).bind fun t305=>(some t305)) else (some false)) else (some false))=some r:=by rw [if_pos rfl] at H;exact H
     clear H;have H:=H1;clear H1
     by_cases c31:t300=2
     ·rw [if_pos c31] at H
      have c31b0:(t300 == 2)=true:=beq_iff_eq.mpr c31
      have c31b1:(t300 != 2)=false:=bne_eq_false_iff_eq.mpr c31
      clear c31
      by_cases c32:(t297.length:Int)=0
      ·rw [if_pos c32] at H
       have c32b0:((t297.length:Int) == 0)=true:=beq_iff_eq.mpr c32
       have c32b1:((t297.length:Int) != 0)=false:=bne_eq_false_iff_eq.mpr c32
       clear c32;replace H:=Option.bind_eq_some_iff.mp H;obtain ⟨t305,A330,H⟩:=H
       replace H:(some t305)=some r:=H
       have A33:=A0_ A330;clear A330;obtain rfl:=Option.some.inj H
       obtain ⟨Ao34,co34,eo34⟩:=Kd.R_slice HO_11.out
       subst eo34
       go_wp2_with (first|(go_at_call 11;(with_reducible refine (tl_known.calls  t305 _ A33.out ?side1).mono ?_);(case side1=>exact LD.below HLD.out y9_);rintro e w35 ⟨rfl,hb⟩;have n0_:=A0_ (Kd.R_below (rd_ HO_11.out) hb);have n1_:=A0_ (blk_below (g:=gb294) (o:=.cells #[.slice A0_0 l0_0.length c0_0,.int .i64 a0_1,.int .i64 a0_2,.int .i64 a0_3] 28 (0,0)) (bd_ BK294.out) hb);have n2_:=A0_ (below_step y9_ hb);clear HO_11;clear BK294;clear HB;have HO_11:=n0_;have BK294:=n1_;have HB:=n2_;clear n0_ n1_ n2_;(try clear hb);(try clear hb2);(try clear hk);(try clear hi)))
       go_ret
       exact ⟨y3_,y9_⟩
      ·rw [if_neg c32] at H
       have c32b0:((t297.length:Int) == 0)=false:=beq_eq_false_iff_ne.mpr c32
       have c32b1:((t297.length:Int) != 0)=true:=bne_iff_ne.mpr c32
       have c32b2:¬ (t297=[]):=fun h_=>c32 (by rw [h_];rfl)
       obtain rfl:=Option.some.inj H
       obtain ⟨Ao36,co36,eo36⟩:=Kd.R_slice HO_11.out
       subst eo36;go_wp2;go_ret
       exact ⟨y3_,y9_⟩
     ·rw [if_neg c31] at H
      have c31b0:(t300 == 2)=false:=beq_eq_false_iff_ne.mpr c31
      have c31b1:(t300 != 2)=true:=bne_iff_ne.mpr c31
      obtain rfl:=Option.some.inj H;go_wp2;go_ret
      exact ⟨y3_,y9_⟩
    ·replace c30:=Bool.eq_false_iff.mpr c30;subst c30
     have H1:(if t300=0 then ((tr_Eclipses.f kj8 l0_0 a0_1 a0_2 a0_3 a1 a2 a3 a4).bind fun t306=>((tr_SameEclipses.f kj8 t297 t306).bind fun t309=>(if t309=true then ((tl_known.f).bind fun t310=>(some t310)) else (some false)))) else (some false))=some r:=by rw [if_neg (show ¬ (false=true) by decide)] at H;exact H
     clear H;have H:=H1;clear H1
     by_cases c37:t300=0
     ·rw [if_pos c37] at H
      have c37b0:(t300 == 0)=true:=beq_iff_eq.mpr c37
      have c37b1:(t300 != 0)=false:=bne_eq_false_iff_eq.mpr c37
      clear c37;replace H:=Option.bind_eq_some_iff.mp H;obtain ⟨t306,A380,H⟩:=H
      replace H:((tr_SameEclipses.f kj8 t297 t306).bind fun t309=>(if t309=true then ((tl_known.f).bind fun t310=>(some t310)) else (some false)))=some r:=H
      have A38:=A0_ A380;clear A380;replace H:=Option.bind_eq_some_iff.mp H;obtain ⟨t309,A390,H⟩:=H
      replace H:(if t309=true then ((tl_known.f).bind fun t310=>(some t310)) else (some false))=some r:=H
      have A39:=A0_ A390;clear A390
      by_cases c40:t309=true
      ·subst c40
       have H1:((tl_known.f).bind fun t310=>(some t310))=some r:=by rw [if_pos rfl] at H;exact H
       clear H;have H:=H1;clear H1;replace H:=Option.bind_eq_some_iff.mp H;obtain ⟨t310,A410,H⟩:=H
       replace H:(some t310)=some r:=H
       have A41:=A0_ A410;clear A410;obtain rfl:=Option.some.inj H;obtain ⟨hcz42_0,hcz42_1,hcz42_2,hcz42_3,hfz42_0,hfz42_1,hfz42_2,hfz42_3⟩:=bq4_ BK294.out
       go_wp2_with (first|(go_at_call 20;(with_reducible refine (tr_Eclipses.calls kj8 _ _ l0_0 a0_1 a0_2 a0_3 a1 a2 a3 a4 t306 _ ?side1 ?side2 A38.out).mono ?_);(case side1=>repeat (first|exact (Kd.C_below HR0_0.out HB.out)|(with_reducible refine Kd.C_alloc ?_ _)|(with_reducible refine Kd.C_drewN ?_ _)|(with_reducible refine Kd.C_drew ?_)));(case side2=>exact HC0_0.out);rintro e w43 ⟨v307,rfl,ho0,hb⟩;have n0_:=A0_ (Kd.R_elder' (rd_ HO_11.out) (Kd.R_base ho0) hb);have n1_:=A0_ (Kd.R_lower (Kd.R_new' ho0 (Kd.R_lt (rd_ HO_11.out))) (below_size y9_));have n2_:=A0_ (blk_below (g:=gb294) (o:=.cells #[.slice A0_0 l0_0.length c0_0,.int .i64 a0_1,.int .i64 a0_2,.int .i64 a0_3] 28 (0,0)) (bd_ BK294.out) hb);have n3_:=A0_ (below_step y9_ hb);clear HO_11;clear BK294;clear HB;have HO_11:=n0_;have HO308:=n1_;have BK294:=n2_;have HB:=n3_;clear n0_ n1_ n2_ n3_;(try clear hb);(try clear hb2);(try clear hk);(try clear hi);(try clear ho0);obtain ⟨Ao44,co44,eo44⟩:=Kd.R_slice HO_11.out;subst eo44;obtain ⟨Ao45,co45,eo45⟩:=Kd.R_slice HO308.out;subst eo45)|(go_at_call 19;(with_reducible refine (tr_SameEclipses.calls kj8 _ _ t297 _ _ t306 true _ ?side1 ?side2 ?side3 ?side4 A39.out).mono ?_);(case side1=>repeat (first|exact (Kd.R_reads' HO_11.out).2.2|(with_reducible refine Kd.C_alloc ?_ _)|(with_reducible refine Kd.C_drewN ?_ _)|(with_reducible refine Kd.C_drew ?_)));(case side2=>exact (Kd.R_reads' HO_11.out).2.1);(case side3=>repeat (first|exact (Kd.R_reads' HO308.out).2.2|(with_reducible refine Kd.C_alloc ?_ _)|(with_reducible refine Kd.C_drewN ?_ _)|(with_reducible refine Kd.C_drew ?_)));(case side4=>exact (Kd.R_reads' HO308.out).2.1);rintro e w' ⟨rfl,⟨nd,rfl⟩⟩)|(go_at_call 11;(with_reducible refine (tl_known.calls  t310 _ A41.out ?side1).mono ?_);(case side1=>exact LD.below HLD.out y9_);rintro e w46 ⟨rfl,hb⟩;have n0_:=A0_ (Kd.R_below (rd_ HO_11.out) hb);have n1_:=A0_ (Kd.R_below (rd_ HO308.out) hb);have n2_:=A0_ (blk_below (g:=gb294) (o:=.cells #[.slice A0_0 l0_0.length c0_0,.int .i64 a0_1,.int .i64 a0_2,.int .i64 a0_3] 28 (0,0)) (bd_ BK294.out) hb);have n3_:=A0_ (below_step y9_ hb);clear HO_11;clear HO308;clear BK294;clear HB;have HO_11:=n0_;have HO308:=n1_;have BK294:=n2_;have HB:=n3_;clear n0_ n1_ n2_ n3_;(try clear hb);(try clear hb2);(try clear hk);(try clear hi)))
       go_ret
       exact ⟨y3_,y9_⟩
      ·replace c40:=Bool.eq_false_iff.mpr c40;subst c40
       have H1:(some false)=some r:=by rw [if_neg (show ¬ (false=true) by decide)] at H;exact H
       clear H;have H:=H1;clear H1;obtain rfl:=Option.some.inj H;obtain ⟨hcz47_0,hcz47_1,hcz47_2,hcz47_3,hfz47_0,hfz47_1,hfz47_2,hfz47_3⟩:=bq4_ BK294.out
       go_wp2_with (first|(go_at_call 20;(with_reducible refine (tr_Eclipses.calls kj8 _ _ l0_0 a0_1 a0_2 a0_3 a1 a2 a3 a4 t306 _ ?side1 ?side2 A38.out).mono ?_);(case side1=>repeat (first|exact (Kd.C_below HR0_0.out HB.out)|(with_reducible refine Kd.C_alloc ?_ _)|(with_reducible refine Kd.C_drewN ?_ _)|(with_reducible refine Kd.C_drew ?_)));(case side2=>exact HC0_0.out);rintro e w48 ⟨v307,rfl,ho0,hb⟩;have n0_:=A0_ (Kd.R_elder' (rd_ HO_11.out) (Kd.R_base ho0) hb);have n1_:=A0_ (Kd.R_lower (Kd.R_new' ho0 (Kd.R_lt (rd_ HO_11.out))) (below_size y9_));have n2_:=A0_ (blk_below (g:=gb294) (o:=.cells #[.slice A0_0 l0_0.length c0_0,.int .i64 a0_1,.int .i64 a0_2,.int .i64 a0_3] 28 (0,0)) (bd_ BK294.out) hb);have n3_:=A0_ (below_step y9_ hb);clear HO_11;clear BK294;clear HB;have HO_11:=n0_;have HO308:=n1_;have BK294:=n2_;have HB:=n3_;clear n0_ n1_ n2_ n3_;(try clear hb);(try clear hb2);(try clear hk);(try clear hi);(try clear ho0);obtain ⟨Ao49,co49,eo49⟩:=Kd.R_slice HO_11.out;subst eo49;obtain ⟨Ao50,co50,eo50⟩:=Kd.R_slice HO308.out;subst eo50)|(go_at_call 19;(with_reducible refine (tr_SameEclipses.calls kj8 _ _ t297 _ _ t306 false _ ?side1 ?side2 ?side3 ?side4 A39.out).mono ?_);(case side1=>repeat (first|exact (Kd.R_reads' HO_11.out).2.2|(with_reducible refine Kd.C_alloc ?_ _)|(with_reducible refine Kd.C_drewN ?_ _)|(with_reducible refine Kd.C_drew ?_)));(case side2=>exact (Kd.R_reads' HO_11.out).2.1);(case side3=>repeat (first|exact (Kd.R_reads' HO308.out).2.2|(with_reducible refine Kd.C_alloc ?_ _)|(with_reducible refine Kd.C_drewN ?_ _)|(with_reducible refine Kd.C_drew ?_)));(case side4=>exact (Kd.R_reads' HO308.out).2.1);rintro e w' ⟨rfl,⟨nd,rfl⟩⟩))
       go_ret
       exact ⟨y3_,y9_⟩
     ·rw [if_neg c37] at H
      have c37b0:(t300 == 0)=false:=beq_eq_false_iff_ne.mpr c37
      have c37b1:(t300 != 0)=true:=bne_iff_ne.mpr c37
      obtain rfl:=Option.some.inj H;go_wp2;go_ret
      exact ⟨y3_,y9_⟩
 ·replace c7:=Bool.eq_false_iff.mpr c7;subst c7
  have H1:((tl_known.f).bind fun t296=>(some t296))=some r:=by rw [if_neg (show ¬ (false=true) by decide)] at H;exact H
  clear H;have H:=H1;clear H1;replace H:=Option.bind_eq_some_iff.mp H;obtain ⟨t296,A510,H⟩:=H
  replace H:(some t296)=some r:=H
  have A51:=A0_ A510;clear A510;obtain rfl:=Option.some.inj H
  go_enter Tryz.func4,Tryz.ntmps4
  go_wp2_with (first|((with_reducible refine gate_dst (N:=5) rfl ?_);(try (refine gate_guard (by rfl) ?_;dsimp only));refine box_event ?hg (N:=5) ?hd (cs:=#[.slice A0_0 l0_0.length c0_0,.int .i64 a0_1,.int .i64 a0_2,.int .i64 a0_3]) (t:=28) ?hr ?_;(case hd=>rfl);(case hg=>rfl);(case hr=>first|(go_simp;done)|(go_simp;rfl));intro gb294 hg w52 hbox hb;have n0_:=A0_ (below_step y0_ hb);have n1_:=A0_ (hbox);have n2_:=A0_ ((by rw [hg];exact (below_size y0_):w.heap.size≤gb294));have n3_:=A0_ ((by rw [hg];exact (below_size y0_):w.heap.size≤gb294));clear HB;have HB:=n0_;have BK294:=n1_;have GW294:=n2_;have GE294:=n3_;clear n0_ n1_ n2_ n3_;clear hb hbox hg;obtain ⟨hcz53_0,hcz53_1,hcz53_2,hcz53_3,hfz53_0,hfz53_1,hfz53_2,hfz53_3⟩:=bq4_ BK294.out)|((with_reducible refine gate_callee (f:=10) rfl ?_);refine goesL_ (some 14) rfl rfl Tryz.func10 (by kernel_rfl) rfl #[.agg #[.slice A0_0 l0_0.length c0_0,.int .i64 a0_1,.int .i64 a0_2,.int .i64 a0_3]] rfl y1_ ?_;(with_reducible refine (tl_short.calls k _ _ l0_0 a0_1 a0_2 a0_3 false _ ?side1 ?side2 A6.out).mono ?_);(case side1=>repeat (first|exact (Kd.C_below HR0_0.out HB.out)|(with_reducible refine Kd.C_alloc ?_ _)|(with_reducible refine Kd.C_drewN ?_ _)|(with_reducible refine Kd.C_drew ?_)));(case side2=>exact HC0_0.out);rintro e w54 ⟨rfl,hb⟩;refine ⟨_,rfl,?_⟩;have n0_:=A0_ (blk_below (g:=gb294) (o:=.cells #[.slice A0_0 l0_0.length c0_0,.int .i64 a0_1,.int .i64 a0_2,.int .i64 a0_3] 28 (0,0)) (bd_ BK294.out) hb);have n1_:=A0_ (below_step y9_ hb);clear BK294;clear HB;have BK294:=n0_;have HB:=n1_;clear n0_ n1_;(try clear hb);(try clear hb2);(try clear hk);(try clear hi))|((with_reducible refine gate_callee (f:=11) rfl ?_);refine goesL_ (some 16) rfl rfl Tryz.func11 (by kernel_rfl) rfl #[] rfl y1_ ?_;(with_reducible refine (tl_known.calls  t296 _ A51.out ?side1).mono ?_);(case side1=>exact LD.below HLD.out y9_);rintro e w55 ⟨rfl,hb⟩;refine ⟨_,rfl,?_⟩;have n0_:=A0_ (blk_below (g:=gb294) (o:=.cells #[.slice A0_0 l0_0.length c0_0,.int .i64 a0_1,.int .i64 a0_2,.int .i64 a0_3] 28 (0,0)) (bd_ BK294.out) hb);have n1_:=A0_ (below_step y9_ hb);clear BK294;clear HB;have BK294:=n0_;have HB:=n1_;clear n0_ n1_;(try clear hb);(try clear hb2);(try clear hk);(try clear hi)))
  go_ret
  exact ⟨y3_,y9_⟩
end Go.Proofs.YtaidphhkhddemaaGreatDoor.PSky
end
section
namespace Go.Proofs.YtaidphhkhddemaaGreatDoor.PSky
open Go.RowKit Go.Proofs.YtaidphhkhddemaaGreatDoorW.PrintWords Go.Proofs.YtaidphhkhddemaaGreatDoorW.PrintLast Go.Proofs.YtaidphhkhddemaaGreatDoorW.PrintMore
theorem SkyEclipses_ev (l:List S83) (p q n new full a b:Int):Ev (fun k=>tl_SkyEclipses.f k l p q n new full a b) true:=by
 obtain ⟨s,hs,hs6⟩:=short_ev l p q n
 unfold tl_SkyEclipses.f
 refine Ev.bind hs ?_
 cases s with
 |false=>exact Ev.neg (by simp) known_ev
 |true=>
  have hl:=hs6 rfl
  have bad:∀ c:Bool,c=true→Ev (fun k=>tl_SkyEclipses.j0 k new full a b [] 2 c l p q n) true:=fun c hc=>by
   refine Ev.step (fun k=>by rw [tl_SkyEclipses.j0]) ?_
   exact Ev.pos hc (Ev.pos rfl (Ev.pos rfl known_ev))
  refine Ev.pos rfl (Ev.bind (Eclipses_ev l p q n new full a b) (Ev.bind (refSky_ev l p q n (by omega)) ?_))
  cases h1:okSky l p q n with
  |false=>rw [if_neg (by simp)];exact Ev.neg (by simp) (bad _ rfl)
  |true=>
   refine Ev.pos rfl (Ev.bind (Ev.is (Limit_eq new)) ?_)
   cases h2:okLimit new with
   |false=>rw [if_neg (by simp)];exact Ev.neg (by simp) (bad _ rfl)
   |true=>
    refine Ev.pos rfl (Ev.bind (Ev.is (Limit_eq full)) ?_)
    cases h3:okLimit full with
    |false=>rw [if_neg (by simp)];exact Ev.neg (by simp) (bad _ rfl)
    |true=>
     refine Ev.pos rfl (Ev.bind (Ev.is (Span_eq a b)) ?_)
     cases h4:okSpan a b with
     |false=>rw [if_neg (by simp)];exact bad _ rfl
     |true=>
      rw [if_pos ⟨rfl,rfl,rfl,rfl⟩]
      refine Ev.step (fun k=>by rw [tl_SkyEclipses.j0]) ?_
      refine Ev.neg (by simp) (Ev.pos rfl (Ev.bind (refEclipses_ev h1 new full h4) (Ev.bind (sameEcl_ev _ ?_) (Ev.pos rfl known_ev))))
      have:=eclOf_length l p q n new full ((daysOf a b).flatMap (moonOn l))
      have:=moonlist_length l h4
      show (eclsOf l p q n new full a b).length≤1000000
      unfold eclsOf
      omega
end Go.Proofs.YtaidphhkhddemaaGreatDoor.PSky
end
section
namespace Go.Proofs.YtaidphhkhddemaaGreatDoor
open Go.ChangeShapes Go.WideShapes Go.ChangeAt Go.RowKit
set_option maxRecDepth 100000 in
set_option maxHeartbeats 1600000 in
theorem skyEclipses_lifted (os:Os) (started:os.Started) (H:Type) (enc:TypeId × Value→H) (F:Stop.Interp):
  ReturnsInHanded {} Tryz.checked os 4 .any ((OpenSpec.ofChange Rows.skyEclipsesSpec).preRow enc Tryz.prog Tryz.f4 Rows.skyEclipsesRow.domain false Rows.skyEclipsesRow.laid) (((OpenSpec.ofChange Rows.skyEclipsesSpec).at F).post enc Tryz.prog Tryz.f4 false true false false):=by
 refine returnsInHanded_of_row (C:=Tryz.checked) (s:=OpenSpec.ofChange Rows.skyEclipsesSpec) own started (by kernel_rfl) Tryz.func4
  (witness_row_at (enc:=enc) (C:=Tryz.checked) false (laidWorld os) #[.agg #[.slice none 0 0,.int .i64 0,.int .i64 0,.int .i64 0],.int .i64 0,.int .i64 0,.int .i64 0,.int .i64 0] rfl (by kernel_rfl) (by kernel_rfl) (by kernel_rfl) (OpenSpec.preRow_of_B rfl 8 (by kernel_rfl) (by kernel_rfl) (laid_met os _))) ?_
 intro W base args ds gs before hval0 hW _ _ hsz0 hL hsh _
 have hval:∀ (j:Nat) t v,Tryz.f4.params[j]?=some t→args[j]?=some v→Value.okWide Tryz.prog W .any base t v:=hval0
 have hW':=hW
 obtain ⟨p,q,hA0,hV,rfl,hfz,hnd⟩:=hW
 have hA:DataW.TrodAll enc Tryz.prog W 0 (fun _=>true) true Tryz.f4.params.toList args.toList ds p:=hA0
 rw [Tryz.params4] at hA hval
 obtain ⟨v0,vs0,d0,ds0,p0,q0,hargs,rfl,rfl,h0,r0⟩:=trodAll_cons hA
 obtain ⟨v1,vs1,d1,ds1,p1,q1,rfl,rfl,rfl,h1,r1⟩:=trodAll_cons r0
 obtain ⟨v2,vs2,d2,ds2,p2,q2,rfl,rfl,rfl,h2,r2⟩:=trodAll_cons r1
 obtain ⟨v3,vs3,d3,ds3,p3,q3,rfl,rfl,rfl,h3,r3⟩:=trodAll_cons r2
 obtain ⟨v4,vs4,d4,ds4,p4,q4,rfl,rfl,rfl,h4,r4⟩:=trodAll_cons r3
 obtain ⟨rfl,rfl,rfl⟩:=trodAll_nil r4
 obtain rfl:args=#[v0,v1,v2,v3,v4]:=by cases args;simp_all
 obtain ⟨rfl,rfl⟩:=trodVars_none hV
 have k0:=h0
 have lt0:∀ x∈p0,x.block<W.heap.size:=by obtain ⟨m,hm⟩:=k0;exact DataW.trod_lt m _ _ _ hm
 obtain ⟨fuel0,hf0⟩:=h0
 obtain ⟨A0,c0,l0,a0,b0,e0,hcs0,hlc0,hC0⟩:=PSky.open_sky hf0
 obtain rfl:=agg_of hcs0 rfl
 obtain ⟨x1,rfl,rfl,rfl,w1⟩:=open_int Tryz.underlying3 (hval 1 3 v1 rfl rfl) h1
 obtain ⟨x2,rfl,rfl,rfl,w2⟩:=open_int Tryz.underlying3 (hval 2 3 v2 rfl rfl) h2
 obtain ⟨x3,rfl,rfl,rfl,w3⟩:=open_int Tryz.underlying3 (hval 3 3 v3 rfl rfl) h3
 obtain ⟨x4,rfl,rfl,rfl,w4⟩:=open_int Tryz.underlying3 (hval 4 3 v4 rfl rfl) h4
 obtain ⟨k,hk⟩:=(PSky.SkyEclipses_ev l0 a0 b0 e0 x1 x2 x3 x4).rounds
 have hld:=ld_of hL hsh
 clear hA0 hval0 hsz0 hA hval hL hsh
 refine (PSky.tl_SkyEclipses.calls k A0 c0 l0 a0 b0 e0 x1 x2 x3 x4 true W hC0 hlc0 hk hld).mono fun e W' ⟨he,bel⟩=>?_
 subst he
 exact ⟨_,rfl,_,_,_,[],_,[],hW',trodAll_mk1 (shut_bool Tryz.underlying4 _),(trodAll_cons_mk (Below.trod laidOut (by kernel_rfl) (of_decide_eq_true (by kernel_rfl)) k0 bel lt0) (trodAll_cons_mk (shut_int Tryz.underlying3 w1) (trodAll_cons_mk (shut_int Tryz.underlying3 w2) (trodAll_cons_mk (shut_int Tryz.underlying3 w3) (trodAll_cons_mk (shut_int Tryz.underlying3 w4) trodAll_mk0))))),rfl,bel.frame _,fun h=>by cases h⟩
theorem skyEclipses_holds:Rows.SkyEclipsesSaid:=
 OpenClaim.holds_of_wide 4 Tryz.f4 rfl rfl rfl rfl rfl rfl rfl ⟨rfl,rfl,rfl,rfl,rfl⟩ rfl rfl rfl rfl rfl (by kernel_rfl) Tryz.func4 (by kernel_rfl)
  (of_decide_eq_true (by kernel_rfl)) PSky.y38_
  (fun os started H enc _=>skyEclipses_lifted os started H enc (fun _ _ _=>0))
end Go.Proofs.YtaidphhkhddemaaGreatDoor
end
