/- A part of the proof of a law of the layer sky. -/
import Derived.BigRegion
import Derived.Test.YtjahbgldccjbfaaGreatDoorY1
section
namespace Go.Proofs.YtjahbgldccjbfaaGreatDoor.PSky
open Go.RowKit Go.Proofs.YtjahbgldccjbfaaGreatDoorW.PrintWords Go.Proofs.YtjahbgldccjbfaaGreatDoorW.PrintLast Go.Proofs.YtjahbgldccjbfaaGreatDoorW.PrintMore
attribute [local go_sem] max2_int min2_int max_two min_two max_three min_three max_four min_four
set_option linter.unusedVariables false
set_option linter.unusedSimpArgs false
def iF_isSky_c1_c1.l0:Nat→List Int→Int→Int→Option (Int)
 |0,_,_,_=>none
 |k+1,x0,x7,x8=>if x8<x7 then (if 0≤x8 then (if x8<(x0.length:Int) then ((sky_isSky_c1_c1.f (rd x0 x8)).bind fun t213=>(if t213=true then (some x8) else (iF_isSky_c1_c1.l0 k x0 x7 (wrap64 (x8+1))))) else (none)) else (none)) else (some (-1))
def iF_isSky_c1_c1.f (k:Nat) (l0:List Int)  : Option (Int):=iF_isSky_c1_c1.l0 k l0 (l0.length:Int) 0
theorem iF_isSky_c1_c1.mono_l:∀ k,(∀ y0 y1 y2,LeO (iF_isSky_c1_c1.l0 k y0 y1 y2) (iF_isSky_c1_c1.l0 (k+1) y0 y1 y2))
 |0=>fun _ _ _ r h=>by simp [iF_isSky_c1_c1.l0] at h
 |k+1=>by
  have ih0:=iF_isSky_c1_c1.mono_l k
  ·intro y0 y1 y2
   unfold iF_isSky_c1_c1.l0
   repeat' first
   |(with_reducible exact ih0 _ _ _)
   |(with_reducible exact LeO.refl _)
   |(with_reducible exact LeO.none _)
   |(with_reducible refine LeO.ite ?_ ?_)
   |(with_reducible refine LeO.bind ?_ (fun _=>?_))
   |exact ih0 _ _ _
   |exact LeO.none _
   |refine LeO.ite ?_ ?_
   |refine LeO.bind ?_ (fun _=>?_)
theorem iF_isSky_c1_c1.mono:∀ a0 k,LeO (iF_isSky_c1_c1.f k a0) (iF_isSky_c1_c1.f (k+1) a0):=by
 intro a0 k
 have ih0:=iF_isSky_c1_c1.mono_l k
 unfold iF_isSky_c1_c1.f
 repeat' first
   |(with_reducible exact ih0 _ _ _)
   |(with_reducible exact LeO.refl _)
   |(with_reducible exact LeO.none _)
   |(with_reducible refine LeO.ite ?_ ?_)
   |(with_reducible refine LeO.bind ?_ (fun _=>?_))
   |exact ih0 _ _ _
   |exact LeO.none _
   |refine LeO.ite ?_ ?_
   |refine LeO.bind ?_ (fun _=>?_)
set_option maxHeartbeats 8000000 in
set_option maxRecDepth 100000 in
theorem iF_isSky_c1_c1.calls (k:Nat) (A0:Option Addr) (c0:Nat) (l0:List Int)  (r:Int) (w:World) (hr0:Kd.C (Kd.int .i64) w A0 l0.length l0) (hc0:l0.length≤c0) (h:iF_isSky_c1_c1.f k l0=some r):
  Calls Tryz.prog 139 #[.slice A0 l0.length c0,.func (.func 121) #[] #[]] w fun e w'=>e=.returned (.int .i64 r)∧Drawn0 w w':=by
 have HR0:=A0_ hr0;have HC0:=A0_ hc0;clear hr0 hc0
 have H:(iF_isSky_c1_c1.l0 k l0 (l0.length:Int) 0)=some r:=h
 clear h
 have H':=A0_ H
 clear H
 go_enter Tryz.func139,Tryz.ntmps139
 go_wp2
 go_loopg [8] k (fun kq v8 w'=>∃ (x8_1:Int),v8=.int .i64 x8_1∧Aside0 (iF_isSky_c1_c1.l0 kq l0 (l0.length:Int) x8_1=some r)∧Aside0 (kq≤k)∧Drawn0 w w')
 case atStart=>exact ⟨(0),y4_,H',⟨Nat.le_refl _⟩,yb_⟩
 case round=>
  clear H'
  (try clear c1);(try clear p2)
  obtain ⟨x8_1,rfl,HA,HK1,⟨m1,rfl⟩⟩:=hrel
  cases gk with
  |zero=>exact absurd HA.out (by simp [iF_isSky_c1_c1.l0])
  |succ k1=>
   have H:=HA.out
   clear HA
   simp only [iF_isSky_c1_c1.l0] at H
   by_cases c3:x8_1<(l0.length:Int)
   ·rw [if_pos c3] at H;have c3b0:decide (x8_1<(l0.length:Int))=true:=decide_eq_true c3;clear c3
    by_cases c4:0≤x8_1
    ·rw [if_pos c4] at H;have c4b0:decide (0≤x8_1)=true:=decide_eq_true c4;clear c4
     by_cases c5:x8_1<(l0.length:Int)
     ·rw [if_pos c5] at H;have c5b0:decide (x8_1<(l0.length:Int))=true:=decide_eq_true c5;clear c5;replace H:=Option.bind_eq_some_iff.mp H;obtain ⟨t213,A60,H⟩:=H
      replace H:(if t213=true then (some x8_1) else (iF_isSky_c1_c1.l0 k1 l0 (l0.length:Int) (wrap64 (x8_1+1))))=some r:=H
      have A6:=A0_ A60;clear A60
      by_cases c7:t213=true
      ·subst c7
       have H1:(some x8_1)=some r:=by rw [if_pos rfl] at H;exact H
       clear H;have H:=H1;clear H1;obtain rfl:=Option.some.inj H
       have p212:0≤(x8_1:Int):=of_decide_eq_true y5_
       have q212:x8_1<(l0.length:Int):=of_decide_eq_true y5_
       obtain ⟨ad212,e212,hx212_0⟩:=Kd.at_int HR0.out x8_1 p212 q212
       cases e212
       replace p212:=eq_true p212
       replace q212:=eq_true q212
       go_wp2_with (first|(go_at_call 121;(with_reducible refine (sky_isSky_c1_c1.calls (rd l0 x8_1) true _ A6.out).mono ?_);rintro e w' ⟨rfl,⟨nd,rfl⟩⟩))
       go_ret
       exact ⟨y4_,yb_⟩
      ·replace c7:=Bool.eq_false_iff.mpr c7;subst c7
       have H1:(iF_isSky_c1_c1.l0 k1 l0 (l0.length:Int) (wrap64 (x8_1+1)))=some r:=by rw [if_neg (show ¬ (false=true) by decide)] at H;exact H
       clear H;have H:=H1;clear H1
       have H':=A0_ H
       clear H
       have p212:0≤(x8_1:Int):=of_decide_eq_true y5_
       have q212:x8_1<(l0.length:Int):=of_decide_eq_true y5_
       obtain ⟨ad212,e212,hx212_0⟩:=Kd.at_int HR0.out x8_1 p212 q212
       cases e212
       replace p212:=eq_true p212
       replace q212:=eq_true q212
       go_wp2_with (first|(go_at_call 121;(with_reducible refine (sky_isSky_c1_c1.calls (rd l0 x8_1) false _ A6.out).mono ?_);rintro e w' ⟨rfl,⟨nd,rfl⟩⟩))
       go_roundg k1
       case measure=>have:=HK1.out;omega
       case rel=>exact ⟨(wrap64 (x8_1+1)),y4_,H',⟨by have:=HK1.out;omega⟩,yb_⟩
     ·rw [if_neg c5] at H;exact absurd H (by simp)
    ·rw [if_neg c4] at H;exact absurd H (by simp)
   ·rw [if_neg c3] at H;have c3b0:decide (x8_1<(l0.length:Int))=false:=decide_eq_false c3;clear c3;obtain rfl:=Option.some.inj H;go_wp2;go_ret
    exact ⟨y4_,yb_⟩
def cF_isSky_c1_c1.f (k:Nat) (l0:List Int)  : Option (Bool):=(iF_isSky_c1_c1.f k l0).bind fun t214=>(some (decide (t214 ≥ 0)))
theorem cF_isSky_c1_c1.mono:∀ a0 k,LeO (cF_isSky_c1_c1.f k a0) (cF_isSky_c1_c1.f (k+1) a0):=by
 intro a0 k
 unfold cF_isSky_c1_c1.f
 repeat' first
   |(with_reducible exact iF_isSky_c1_c1.mono _ _)
   |(with_reducible exact LeO.refl _)
   |(with_reducible exact LeO.none _)
   |(with_reducible refine LeO.ite ?_ ?_)
   |(with_reducible refine LeO.bind ?_ (fun _=>?_))
   |exact iF_isSky_c1_c1.mono _ _
   |exact LeO.none _
   |refine LeO.ite ?_ ?_
   |refine LeO.bind ?_ (fun _=>?_)
set_option maxHeartbeats 8000000 in
set_option maxRecDepth 100000 in
theorem cF_isSky_c1_c1.calls (k:Nat) (A0:Option Addr) (c0:Nat) (l0:List Int)  (r:Bool) (w:World) (hr0:Kd.C (Kd.int .i64) w A0 l0.length l0) (hc0:l0.length≤c0) (h:cF_isSky_c1_c1.f k l0=some r):
  Calls Tryz.prog 105 #[.slice A0 l0.length c0,.func (.func 121) #[] #[]] w fun e w'=>e=.returned (.bool r)∧Drawn0 w w':=by
 have HR0:=A0_ hr0;have HC0:=A0_ hc0;clear hr0 hc0
 have H:((iF_isSky_c1_c1.f k l0).bind fun t214=>(some (decide (t214 ≥ 0))))=some r:=h
 clear h;replace H:=Option.bind_eq_some_iff.mp H;obtain ⟨t214,A30,H⟩:=H
 replace H:(some (decide (t214 ≥ 0)))=some r:=H
 have A3:=A0_ A30;clear A30;obtain rfl:=Option.some.inj H
 go_enter Tryz.func105,Tryz.ntmps105
 go_wp2_with (first|(go_at_call 139;(with_reducible refine (iF_isSky_c1_c1.calls k _ _ l0  t214 _ ?side1 ?side2 A3.out).mono ?_);(case side1=>repeat (first|exact HR0.out|(with_reducible refine Kd.C_alloc ?_ _)|(with_reducible refine Kd.C_drewN ?_ _)|(with_reducible refine Kd.C_drew ?_)));(case side2=>exact HC0.out);rintro e w' ⟨rfl,⟨nd,rfl⟩⟩))
 go_ret
 exact ⟨y4_,yb_⟩
def sky_isSky_c1.f (k:Nat) (a0_0:Int) (a0_1:Int) (a0_2:Int) (l0_3:List Int):Option (Bool):=(sky_isPeriod.f a0_0 a0_1).bind fun t216=>(if t216=true then ((sky_isPlace.f a0_2).bind fun t217=>(if t217=true then ((sky_in.f (l0_3.length:Int) 1 8).bind fun t218=>(if t218=true then ((cF_isSky_c1_c1.f k l0_3).bind fun t219=>(some t219)) else (some true))) else (some true))) else (some true))
theorem sky_isSky_c1.mono:∀ a0 a1 a2 a3 k,LeO (sky_isSky_c1.f k a0 a1 a2 a3) (sky_isSky_c1.f (k+1) a0 a1 a2 a3):=by
 intro a0 a1 a2 a3 k
 unfold sky_isSky_c1.f
 repeat' first
   |(with_reducible exact cF_isSky_c1_c1.mono _ _)
   |(with_reducible exact LeO.refl _)
   |(with_reducible exact LeO.none _)
   |(with_reducible refine LeO.ite ?_ ?_)
   |(with_reducible refine LeO.bind ?_ (fun _=>?_))
   |exact cF_isSky_c1_c1.mono _ _
   |exact LeO.none _
   |refine LeO.ite ?_ ?_
   |refine LeO.bind ?_ (fun _=>?_)
set_option maxHeartbeats 8000000 in
set_option maxRecDepth 100000 in
theorem sky_isSky_c1.calls (k:Nat) (a0_0:Int) (a0_1:Int) (a0_2:Int) (A0_3:Option Addr) (c0_3:Nat) (l0_3:List Int) (r:Bool) (w:World) (hr0_3:Kd.C (Kd.int .i64) w A0_3 l0_3.length l0_3) (hc0_3:l0_3.length≤c0_3) (h:sky_isSky_c1.f k a0_0 a0_1 a0_2 l0_3=some r):
  Calls Tryz.prog 120 #[.agg #[.int .i64 a0_0,.int .i64 a0_1,.int .i64 a0_2,.slice A0_3 l0_3.length c0_3]] w fun e w'=>e=.returned (.bool r)∧Below w.heap.size w w':=by
 have hu74:=Tryz.underlying74
 have hu25:=Tryz.underlying25
 have HR0_3:=A0_ hr0_3;have HC0_3:=A0_ hc0_3;clear hr0_3 hc0_3
 have HB:=A0_ (Below.refl w.heap.size w)
 have H:((sky_isPeriod.f a0_0 a0_1).bind fun t216=>(if t216=true then ((sky_isPlace.f a0_2).bind fun t217=>(if t217=true then ((sky_in.f (l0_3.length:Int) 1 8).bind fun t218=>(if t218=true then ((cF_isSky_c1_c1.f k l0_3).bind fun t219=>(some t219)) else (some true))) else (some true))) else (some true)))=some r:=h
 clear h;replace H:=Option.bind_eq_some_iff.mp H;obtain ⟨t216,A20,H⟩:=H
 replace H:(if t216=true then ((sky_isPlace.f a0_2).bind fun t217=>(if t217=true then ((sky_in.f (l0_3.length:Int) 1 8).bind fun t218=>(if t218=true then ((cF_isSky_c1_c1.f k l0_3).bind fun t219=>(some t219)) else (some true))) else (some true))) else (some true))=some r:=H
 have A2:=A0_ A20;clear A20
 by_cases c3:t216=true
 ·subst c3
  have H1:((sky_isPlace.f a0_2).bind fun t217=>(if t217=true then ((sky_in.f (l0_3.length:Int) 1 8).bind fun t218=>(if t218=true then ((cF_isSky_c1_c1.f k l0_3).bind fun t219=>(some t219)) else (some true))) else (some true)))=some r:=by rw [if_pos rfl] at H;exact H
  clear H;have H:=H1;clear H1;replace H:=Option.bind_eq_some_iff.mp H;obtain ⟨t217,A40,H⟩:=H
  replace H:(if t217=true then ((sky_in.f (l0_3.length:Int) 1 8).bind fun t218=>(if t218=true then ((cF_isSky_c1_c1.f k l0_3).bind fun t219=>(some t219)) else (some true))) else (some true))=some r:=H
  have A4:=A0_ A40;clear A40
  by_cases c5:t217=true
  ·subst c5
   have H1:((sky_in.f (l0_3.length:Int) 1 8).bind fun t218=>(if t218=true then ((cF_isSky_c1_c1.f k l0_3).bind fun t219=>(some t219)) else (some true)))=some r:=by rw [if_pos rfl] at H;exact H
   clear H;have H:=H1;clear H1;replace H:=Option.bind_eq_some_iff.mp H;obtain ⟨t218,A60,H⟩:=H
   replace H:(if t218=true then ((cF_isSky_c1_c1.f k l0_3).bind fun t219=>(some t219)) else (some true))=some r:=H
   have A6:=A0_ A60;clear A60
   by_cases c7:t218=true
   ·subst c7
    have H1:((cF_isSky_c1_c1.f k l0_3).bind fun t219=>(some t219))=some r:=by rw [if_pos rfl] at H;exact H
    clear H;have H:=H1;clear H1;replace H:=Option.bind_eq_some_iff.mp H;obtain ⟨t219,A80,H⟩:=H
    replace H:(some t219)=some r:=H
    have A8:=A0_ A80;clear A80;obtain rfl:=Option.some.inj H
    go_enter Tryz.func120,Tryz.ntmps120
    go_wp2_with (first|((with_reducible refine gate_dst (N:=1) rfl ?_);(try (refine gate_guard (by rfl) ?_;dsimp only));refine box_event ?hg (N:=1) ?hd (cs:=#[.int .i64 a0_0,.int .i64 a0_1,.int .i64 a0_2,.slice A0_3 l0_3.length c0_3]) (t:=74) ?hr ?_;(case hd=>rfl);(case hg=>rfl);(case hr=>first|(go_simp;done)|(go_simp;rfl));intro gb215 hg w9 hbox hb;have n0_:=A0_ (below_step y0_ hb);have n1_:=A0_ (hbox);have n2_:=A0_ ((by rw [hg];exact (below_size y0_):w.heap.size≤gb215));have n3_:=A0_ ((by rw [hg];exact (below_size y0_):w.heap.size≤gb215));clear HB;have HB:=n0_;have BK215:=n1_;have GW215:=n2_;have GE215:=n3_;clear n0_ n1_ n2_ n3_;clear hb hbox hg;obtain ⟨hcz10_0,hcz10_1,hcz10_2,hcz10_3,hfz10_0,hfz10_1,hfz10_2,hfz10_3⟩:=bq4_ BK215.out)|((with_reducible refine gate_callee (f:=117) rfl ?_);refine goesL_ (some 5) rfl rfl Tryz.func117 (by kernel_rfl) rfl #[.agg #[.int .i64 a0_0,.int .i64 a0_1]] rfl y1_ ?_;(with_reducible refine (sky_isPeriod.calls a0_0 a0_1 true _ A2.out).mono ?_);rintro e w11 ⟨rfl,hb⟩;refine ⟨_,rfl,?_⟩;have n0_:=A0_ (blk_below (g:=gb215) (o:=.cells #[.int .i64 a0_0,.int .i64 a0_1,.int .i64 a0_2,.slice A0_3 l0_3.length c0_3] 74 (0,0)) (bd_ BK215.out) hb);have n1_:=A0_ (below_step y12_ hb);clear BK215;clear HB;have BK215:=n0_;have HB:=n1_;clear n0_ n1_;(try clear hb);(try clear hb2);(try clear hk);(try clear hi);obtain ⟨hcz12_0,hcz12_1,hcz12_2,hcz12_3,hfz12_0,hfz12_1,hfz12_2,hfz12_3⟩:=bq4_ BK215.out)|(go_at_call 118;(with_reducible refine (sky_isPlace.calls a0_2 true _ A4.out).mono ?_);rintro e w' ⟨rfl,⟨nd,rfl⟩⟩)|(go_at_call 104;(with_reducible refine (sky_in.calls (l0_3.length:Int) 1 8 true _ A6.out).mono ?_);rintro e w' ⟨rfl,⟨nd,rfl⟩⟩)|(go_at_call 105;(with_reducible refine (cF_isSky_c1_c1.calls k _ _ l0_3  t219 _ ?side1 ?side2 A8.out).mono ?_);(case side1=>repeat (first|exact (Kd.C_below HR0_3.out y12_)|(with_reducible refine Kd.C_alloc ?_ _)|(with_reducible refine Kd.C_drewN ?_ _)|(with_reducible refine Kd.C_drew ?_)));(case side2=>exact HC0_3.out);rintro e w' ⟨rfl,⟨nd,rfl⟩⟩))
    go_ret
    exact ⟨y2_,y12_⟩
   ·replace c7:=Bool.eq_false_iff.mpr c7;subst c7
    have H1:(some true)=some r:=by rw [if_neg (show ¬ (false=true) by decide)] at H;exact H
    clear H;have H:=H1;clear H1;obtain rfl:=Option.some.inj H
    go_enter Tryz.func120,Tryz.ntmps120
    go_wp2_with (first|((with_reducible refine gate_dst (N:=1) rfl ?_);(try (refine gate_guard (by rfl) ?_;dsimp only));refine box_event ?hg (N:=1) ?hd (cs:=#[.int .i64 a0_0,.int .i64 a0_1,.int .i64 a0_2,.slice A0_3 l0_3.length c0_3]) (t:=74) ?hr ?_;(case hd=>rfl);(case hg=>rfl);(case hr=>first|(go_simp;done)|(go_simp;rfl));intro gb215 hg w13 hbox hb;have n0_:=A0_ (below_step y0_ hb);have n1_:=A0_ (hbox);have n2_:=A0_ ((by rw [hg];exact (below_size y0_):w.heap.size≤gb215));have n3_:=A0_ ((by rw [hg];exact (below_size y0_):w.heap.size≤gb215));clear HB;have HB:=n0_;have BK215:=n1_;have GW215:=n2_;have GE215:=n3_;clear n0_ n1_ n2_ n3_;clear hb hbox hg;obtain ⟨hcz14_0,hcz14_1,hcz14_2,hcz14_3,hfz14_0,hfz14_1,hfz14_2,hfz14_3⟩:=bq4_ BK215.out)|((with_reducible refine gate_callee (f:=117) rfl ?_);refine goesL_ (some 5) rfl rfl Tryz.func117 (by kernel_rfl) rfl #[.agg #[.int .i64 a0_0,.int .i64 a0_1]] rfl y1_ ?_;(with_reducible refine (sky_isPeriod.calls a0_0 a0_1 true _ A2.out).mono ?_);rintro e w15 ⟨rfl,hb⟩;refine ⟨_,rfl,?_⟩;have n0_:=A0_ (blk_below (g:=gb215) (o:=.cells #[.int .i64 a0_0,.int .i64 a0_1,.int .i64 a0_2,.slice A0_3 l0_3.length c0_3] 74 (0,0)) (bd_ BK215.out) hb);have n1_:=A0_ (below_step y12_ hb);clear BK215;clear HB;have BK215:=n0_;have HB:=n1_;clear n0_ n1_;(try clear hb);(try clear hb2);(try clear hk);(try clear hi);obtain ⟨hcz16_0,hcz16_1,hcz16_2,hcz16_3,hfz16_0,hfz16_1,hfz16_2,hfz16_3⟩:=bq4_ BK215.out)|(go_at_call 118;(with_reducible refine (sky_isPlace.calls a0_2 true _ A4.out).mono ?_);rintro e w' ⟨rfl,⟨nd,rfl⟩⟩)|(go_at_call 104;(with_reducible refine (sky_in.calls (l0_3.length:Int) 1 8 false _ A6.out).mono ?_);rintro e w' ⟨rfl,⟨nd,rfl⟩⟩))
    go_ret
    exact ⟨y2_,y12_⟩
  ·replace c5:=Bool.eq_false_iff.mpr c5;subst c5
   have H1:(some true)=some r:=by rw [if_neg (show ¬ (false=true) by decide)] at H;exact H
   clear H;have H:=H1;clear H1;obtain rfl:=Option.some.inj H
   go_enter Tryz.func120,Tryz.ntmps120
   go_wp2_with (first|((with_reducible refine gate_dst (N:=1) rfl ?_);(try (refine gate_guard (by rfl) ?_;dsimp only));refine box_event ?hg (N:=1) ?hd (cs:=#[.int .i64 a0_0,.int .i64 a0_1,.int .i64 a0_2,.slice A0_3 l0_3.length c0_3]) (t:=74) ?hr ?_;(case hd=>rfl);(case hg=>rfl);(case hr=>first|(go_simp;done)|(go_simp;rfl));intro gb215 hg w17 hbox hb;have n0_:=A0_ (below_step y0_ hb);have n1_:=A0_ (hbox);have n2_:=A0_ ((by rw [hg];exact (below_size y0_):w.heap.size≤gb215));have n3_:=A0_ ((by rw [hg];exact (below_size y0_):w.heap.size≤gb215));clear HB;have HB:=n0_;have BK215:=n1_;have GW215:=n2_;have GE215:=n3_;clear n0_ n1_ n2_ n3_;clear hb hbox hg;obtain ⟨hcz18_0,hcz18_1,hcz18_2,hcz18_3,hfz18_0,hfz18_1,hfz18_2,hfz18_3⟩:=bq4_ BK215.out)|((with_reducible refine gate_callee (f:=117) rfl ?_);refine goesL_ (some 5) rfl rfl Tryz.func117 (by kernel_rfl) rfl #[.agg #[.int .i64 a0_0,.int .i64 a0_1]] rfl y1_ ?_;(with_reducible refine (sky_isPeriod.calls a0_0 a0_1 true _ A2.out).mono ?_);rintro e w19 ⟨rfl,hb⟩;refine ⟨_,rfl,?_⟩;have n0_:=A0_ (blk_below (g:=gb215) (o:=.cells #[.int .i64 a0_0,.int .i64 a0_1,.int .i64 a0_2,.slice A0_3 l0_3.length c0_3] 74 (0,0)) (bd_ BK215.out) hb);have n1_:=A0_ (below_step y12_ hb);clear BK215;clear HB;have BK215:=n0_;have HB:=n1_;clear n0_ n1_;(try clear hb);(try clear hb2);(try clear hk);(try clear hi);obtain ⟨hcz20_0,hcz20_1,hcz20_2,hcz20_3,hfz20_0,hfz20_1,hfz20_2,hfz20_3⟩:=bq4_ BK215.out)|(go_at_call 118;(with_reducible refine (sky_isPlace.calls a0_2 false _ A4.out).mono ?_);rintro e w' ⟨rfl,⟨nd,rfl⟩⟩))
   go_ret
   exact ⟨y2_,y12_⟩
 ·replace c3:=Bool.eq_false_iff.mpr c3;subst c3
  have H1:(some true)=some r:=by rw [if_neg (show ¬ (false=true) by decide)] at H;exact H
  clear H;have H:=H1;clear H1;obtain rfl:=Option.some.inj H
  go_enter Tryz.func120,Tryz.ntmps120
  go_wp2_with (first|((with_reducible refine gate_dst (N:=1) rfl ?_);(try (refine gate_guard (by rfl) ?_;dsimp only));refine box_event ?hg (N:=1) ?hd (cs:=#[.int .i64 a0_0,.int .i64 a0_1,.int .i64 a0_2,.slice A0_3 l0_3.length c0_3]) (t:=74) ?hr ?_;(case hd=>rfl);(case hg=>rfl);(case hr=>first|(go_simp;done)|(go_simp;rfl));intro gb215 hg w21 hbox hb;have n0_:=A0_ (below_step y0_ hb);have n1_:=A0_ (hbox);have n2_:=A0_ ((by rw [hg];exact (below_size y0_):w.heap.size≤gb215));have n3_:=A0_ ((by rw [hg];exact (below_size y0_):w.heap.size≤gb215));clear HB;have HB:=n0_;have BK215:=n1_;have GW215:=n2_;have GE215:=n3_;clear n0_ n1_ n2_ n3_;clear hb hbox hg;obtain ⟨hcz22_0,hcz22_1,hcz22_2,hcz22_3,hfz22_0,hfz22_1,hfz22_2,hfz22_3⟩:=bq4_ BK215.out)|((with_reducible refine gate_callee (f:=117) rfl ?_);refine goesL_ (some 5) rfl rfl Tryz.func117 (by kernel_rfl) rfl #[.agg #[.int .i64 a0_0,.int .i64 a0_1]] rfl y1_ ?_;(with_reducible refine (sky_isPeriod.calls a0_0 a0_1 false _ A2.out).mono ?_);rintro e w23 ⟨rfl,hb⟩;refine ⟨_,rfl,?_⟩;have n0_:=A0_ (blk_below (g:=gb215) (o:=.cells #[.int .i64 a0_0,.int .i64 a0_1,.int .i64 a0_2,.slice A0_3 l0_3.length c0_3] 74 (0,0)) (bd_ BK215.out) hb);have n1_:=A0_ (below_step y12_ hb);clear BK215;clear HB;have BK215:=n0_;have HB:=n1_;clear n0_ n1_;(try clear hb);(try clear hb2);(try clear hk);(try clear hi)))
  go_ret
  exact ⟨y2_,y12_⟩
def iF_isSky_c1.l0:Nat→List (S74)→Int→Int→Option (Int)
 |0,_,_,_=>none
 |k+1,x0,x7,x8=>if x8<x7 then (if 0≤x8 then (if x8<(x0.length:Int) then ((sky_isSky_c1.f k ((rd_T74 x0 x8).f0.f0) ((rd_T74 x0 x8).f0.f1) ((rd_T74 x0 x8).f1) ((rd_T74 x0 x8).f2)).bind fun t221=>(if t221=true then (some x8) else (iF_isSky_c1.l0 k x0 x7 (wrap64 (x8+1))))) else (none)) else (none)) else (some (-1))
def iF_isSky_c1.f (k:Nat) (l0:List (S74))  : Option (Int):=iF_isSky_c1.l0 k l0 (l0.length:Int) 0
theorem iF_isSky_c1.mono_l:∀ k,(∀ y0 y1 y2,LeO (iF_isSky_c1.l0 k y0 y1 y2) (iF_isSky_c1.l0 (k+1) y0 y1 y2))
 |0=>fun _ _ _ r h=>by simp [iF_isSky_c1.l0] at h
 |k+1=>by
  have ih0:=iF_isSky_c1.mono_l k
  ·intro y0 y1 y2
   unfold iF_isSky_c1.l0
   repeat' first
   |(with_reducible exact ih0 _ _ _)
   |(with_reducible exact sky_isSky_c1.mono _ _ _ _ _)
   |(with_reducible exact LeO.refl _)
   |(with_reducible exact LeO.none _)
   |(with_reducible refine LeO.ite ?_ ?_)
   |(with_reducible refine LeO.bind ?_ (fun _=>?_))
   |exact ih0 _ _ _
   |exact sky_isSky_c1.mono _ _ _ _ _
   |exact LeO.none _
   |refine LeO.ite ?_ ?_
   |refine LeO.bind ?_ (fun _=>?_)
theorem iF_isSky_c1.mono:∀ a0 k,LeO (iF_isSky_c1.f k a0) (iF_isSky_c1.f (k+1) a0):=by
 intro a0 k
 have ih0:=iF_isSky_c1.mono_l k
 unfold iF_isSky_c1.f
 repeat' first
   |(with_reducible exact ih0 _ _ _)
   |(with_reducible exact sky_isSky_c1.mono _ _ _ _ _)
   |(with_reducible exact LeO.refl _)
   |(with_reducible exact LeO.none _)
   |(with_reducible refine LeO.ite ?_ ?_)
   |(with_reducible refine LeO.bind ?_ (fun _=>?_))
   |exact ih0 _ _ _
   |exact sky_isSky_c1.mono _ _ _ _ _
   |exact LeO.none _
   |refine LeO.ite ?_ ?_
   |refine LeO.bind ?_ (fun _=>?_)
set_option maxHeartbeats 8000000 in
set_option maxRecDepth 100000 in
theorem iF_isSky_c1.calls (k:Nat) (A0:Option Addr) (c0:Nat) (l0:List (S74))  (r:Int) (w:World) (hr0:Kd.C k74 w A0 l0.length l0) (hc0:l0.length≤c0) (h:iF_isSky_c1.f k l0=some r):
  Calls Tryz.prog 142 #[.slice A0 l0.length c0,.func (.func 120) #[] #[]] w fun e w'=>e=.returned (.int .i64 r)∧Below w.heap.size w w':=by
 have hu74:=Tryz.underlying74
 have HR0:=A0_ hr0;have HC0:=A0_ hc0;clear hr0 hc0
 have HB:=A0_ (Below.refl w.heap.size w)
 have H:(iF_isSky_c1.l0 k l0 (l0.length:Int) 0)=some r:=h
 clear h
 have H':=A0_ H
 clear H
 go_enter Tryz.func142,Tryz.ntmps142
 go_wp2
 go_loopg [8] k (fun kq v8 w'=>∃ (x8_1:Int),v8=.int .i64 x8_1∧Aside0 (iF_isSky_c1.l0 kq l0 (l0.length:Int) x8_1=some r)∧Aside0 (kq≤k)∧Aside0 (Below w.heap.size w w'))
 case atStart=>exact ⟨(0),y4_,H',⟨Nat.le_refl _⟩,⟨y0_⟩⟩
 case round=>
  clear H'
  (try clear c1);(try clear p2)
  obtain ⟨x8_1,rfl,HA,HK1,HB⟩:=hrel
  cases gk with
  |zero=>exact absurd HA.out (by simp [iF_isSky_c1.l0])
  |succ k1=>
   have H:=HA.out
   clear HA
   simp only [iF_isSky_c1.l0] at H
   by_cases c3:x8_1<(l0.length:Int)
   ·rw [if_pos c3] at H;have c3b0:decide (x8_1<(l0.length:Int))=true:=decide_eq_true c3;clear c3
    by_cases c4:0≤x8_1
    ·rw [if_pos c4] at H;have c4b0:decide (0≤x8_1)=true:=decide_eq_true c4;clear c4
     by_cases c5:x8_1<(l0.length:Int)
     ·rw [if_pos c5] at H;have c5b0:decide (x8_1<(l0.length:Int))=true:=decide_eq_true c5;clear c5;replace H:=Option.bind_eq_some_iff.mp H;obtain ⟨t221,A60,H⟩:=H
      replace H:(if t221=true then (some x8_1) else (iF_isSky_c1.l0 k1 l0 (l0.length:Int) (wrap64 (x8_1+1))))=some r:=H
      have A6:=A0_ A60;clear A60
      by_cases c7:t221=true
      ·subst c7
       have H1:(some x8_1)=some r:=by rw [if_pos rfl] at H;exact H
       clear H;have H:=H1;clear H1;obtain rfl:=Option.some.inj H
       have p220:0≤(x8_1:Int):=of_decide_eq_true y5_
       have q220:x8_1<(l0.length:Int):=of_decide_eq_true y5_
       obtain ⟨ad220,A220_3,c220_3,e220,hx220_0,hx220_1,hx220_2,hx220_3,hl220_3,hi220_3⟩:=at_T74 HR0.out x8_1 p220 q220
       cases e220
       replace hx220_0:=(HB.out.cell (World.block_lt_of_cell? w _ hx220_0)).trans hx220_0
       replace hx220_1:=(HB.out.cell (World.block_lt_of_cell? w _ hx220_1)).trans hx220_1
       replace hx220_2:=(HB.out.cell (World.block_lt_of_cell? w _ hx220_2)).trans hx220_2
       replace hx220_3:=(HB.out.cell (World.block_lt_of_cell? w _ hx220_3)).trans hx220_3
       have HR220_3:=A0_ hi220_3;have HC220_3:=A0_ hl220_3;clear hi220_3 hl220_3
       replace p220:=eq_true p220
       replace q220:=eq_true q220
       go_wp2_with (first|(go_at_call 120;(with_reducible refine (sky_isSky_c1.calls k1 ((rd_T74 l0 x8_1).f0.f0) ((rd_T74 l0 x8_1).f0.f1) ((rd_T74 l0 x8_1).f1) _ _ ((rd_T74 l0 x8_1).f2) true _ ?side1 ?side2 A6.out).mono ?_);(case side1=>repeat (first|exact (Kd.C_below HR220_3.out HB.out)|(with_reducible refine Kd.C_alloc ?_ _)|(with_reducible refine Kd.C_drewN ?_ _)|(with_reducible refine Kd.C_drew ?_)));(case side2=>exact HC220_3.out);rintro e w8 ⟨rfl,hb⟩;have n0_:=A0_ (below_step y0_ hb);clear HB;have HB:=n0_;clear n0_;(try clear hb);(try clear hb2);(try clear hk);(try clear hi)))
       go_ret
       exact ⟨y2_,y0_⟩
      ·replace c7:=Bool.eq_false_iff.mpr c7;subst c7
       have H1:(iF_isSky_c1.l0 k1 l0 (l0.length:Int) (wrap64 (x8_1+1)))=some r:=by rw [if_neg (show ¬ (false=true) by decide)] at H;exact H
       clear H;have H:=H1;clear H1
       have H':=A0_ H
       clear H
       have p220:0≤(x8_1:Int):=of_decide_eq_true y5_
       have q220:x8_1<(l0.length:Int):=of_decide_eq_true y5_
       obtain ⟨ad220,A220_3,c220_3,e220,hx220_0,hx220_1,hx220_2,hx220_3,hl220_3,hi220_3⟩:=at_T74 HR0.out x8_1 p220 q220
       cases e220
       replace hx220_0:=(HB.out.cell (World.block_lt_of_cell? w _ hx220_0)).trans hx220_0
       replace hx220_1:=(HB.out.cell (World.block_lt_of_cell? w _ hx220_1)).trans hx220_1
       replace hx220_2:=(HB.out.cell (World.block_lt_of_cell? w _ hx220_2)).trans hx220_2
       replace hx220_3:=(HB.out.cell (World.block_lt_of_cell? w _ hx220_3)).trans hx220_3
       have HR220_3:=A0_ hi220_3;have HC220_3:=A0_ hl220_3;clear hi220_3 hl220_3
       replace p220:=eq_true p220
       replace q220:=eq_true q220
       go_wp2_with (first|(go_at_call 120;(with_reducible refine (sky_isSky_c1.calls k1 ((rd_T74 l0 x8_1).f0.f0) ((rd_T74 l0 x8_1).f0.f1) ((rd_T74 l0 x8_1).f1) _ _ ((rd_T74 l0 x8_1).f2) false _ ?side1 ?side2 A6.out).mono ?_);(case side1=>repeat (first|exact (Kd.C_below HR220_3.out HB.out)|(with_reducible refine Kd.C_alloc ?_ _)|(with_reducible refine Kd.C_drewN ?_ _)|(with_reducible refine Kd.C_drew ?_)));(case side2=>exact HC220_3.out);rintro e w9 ⟨rfl,hb⟩;have n0_:=A0_ (below_step y0_ hb);clear HB;have HB:=n0_;clear n0_;(try clear hb);(try clear hb2);(try clear hk);(try clear hi)))
       go_roundg k1
       case measure=>have:=HK1.out;omega
       case rel=>exact ⟨(wrap64 (x8_1+1)),y4_,H',⟨by have:=HK1.out;omega⟩,⟨y0_⟩⟩
     ·rw [if_neg c5] at H;exact absurd H (by simp)
    ·rw [if_neg c4] at H;exact absurd H (by simp)
   ·rw [if_neg c3] at H;have c3b0:decide (x8_1<(l0.length:Int))=false:=decide_eq_false c3;clear c3;obtain rfl:=Option.some.inj H;go_wp2;go_ret
    exact ⟨y2_,y0_⟩
def cF_isSky_c1.f (k:Nat) (l0:List (S74))  : Option (Bool):=(iF_isSky_c1.f k l0).bind fun t222=>(some (decide (t222 ≥ 0)))
theorem cF_isSky_c1.mono:∀ a0 k,LeO (cF_isSky_c1.f k a0) (cF_isSky_c1.f (k+1) a0):=by
 intro a0 k
 unfold cF_isSky_c1.f
 repeat' first
   |(with_reducible exact iF_isSky_c1.mono _ _)
   |(with_reducible exact LeO.refl _)
   |(with_reducible exact LeO.none _)
   |(with_reducible refine LeO.ite ?_ ?_)
   |(with_reducible refine LeO.bind ?_ (fun _=>?_))
   |exact iF_isSky_c1.mono _ _
   |exact LeO.none _
   |refine LeO.ite ?_ ?_
   |refine LeO.bind ?_ (fun _=>?_)
set_option maxHeartbeats 8000000 in
set_option maxRecDepth 100000 in
theorem cF_isSky_c1.calls (k:Nat) (A0:Option Addr) (c0:Nat) (l0:List (S74))  (r:Bool) (w:World) (hr0:Kd.C k74 w A0 l0.length l0) (hc0:l0.length≤c0) (h:cF_isSky_c1.f k l0=some r):
  Calls Tryz.prog 119 #[.slice A0 l0.length c0,.func (.func 120) #[] #[]] w fun e w'=>e=.returned (.bool r)∧Below w.heap.size w w':=by
 have HR0:=A0_ hr0;have HC0:=A0_ hc0;clear hr0 hc0
 have HB:=A0_ (Below.refl w.heap.size w)
 have H:((iF_isSky_c1.f k l0).bind fun t222=>(some (decide (t222 ≥ 0))))=some r:=h
 clear h;replace H:=Option.bind_eq_some_iff.mp H;obtain ⟨t222,A30,H⟩:=H
 replace H:(some (decide (t222 ≥ 0)))=some r:=H
 have A3:=A0_ A30;clear A30;obtain rfl:=Option.some.inj H
 go_enter Tryz.func119,Tryz.ntmps119
 go_wp2_with (first|(go_at_call 142;(with_reducible refine (iF_isSky_c1.calls k _ _ l0  t222 _ ?side1 ?side2 A3.out).mono ?_);(case side1=>repeat (first|exact HR0.out|(with_reducible refine Kd.C_alloc ?_ _)|(with_reducible refine Kd.C_drewN ?_ _)|(with_reducible refine Kd.C_drew ?_)));(case side2=>exact HC0.out);rintro e w4 ⟨rfl,hb⟩;have n0_:=A0_ (below_step y0_ hb);clear HB;have HB:=n0_;clear n0_;(try clear hb);(try clear hb2);(try clear hk);(try clear hi)))
 go_ret
 exact ⟨y2_,y0_⟩
def sky_isSky.f (k:Nat) (l0_0:List (S74)) (a0_1:Int) (a0_2:Int) (a0_3:Int):Option (Bool):=(sky_in.f (l0_0.length:Int) 2 4).bind fun t224=>(if t224=true then ((sky_isPeriod.f a0_1 a0_2).bind fun t225=>(if t225=true then ((sky_isPlace.f a0_3).bind fun t226=>(if t226=true then ((cF_isSky_c1.f k l0_0).bind fun t227=>(some (!t227))) else (some false))) else (some false))) else (some false))
theorem sky_isSky.mono:∀ a0 a1 a2 a3 k,LeO (sky_isSky.f k a0 a1 a2 a3) (sky_isSky.f (k+1) a0 a1 a2 a3):=by
 intro a0 a1 a2 a3 k
 unfold sky_isSky.f
 repeat' first
   |(with_reducible exact cF_isSky_c1.mono _ _)
   |(with_reducible exact LeO.refl _)
   |(with_reducible exact LeO.none _)
   |(with_reducible refine LeO.ite ?_ ?_)
   |(with_reducible refine LeO.bind ?_ (fun _=>?_))
   |exact cF_isSky_c1.mono _ _
   |exact LeO.none _
   |refine LeO.ite ?_ ?_
   |refine LeO.bind ?_ (fun _=>?_)
set_option maxHeartbeats 8000000 in
set_option maxRecDepth 100000 in
theorem sky_isSky.calls (k:Nat) (A0_0:Option Addr) (c0_0:Nat) (l0_0:List (S74)) (a0_1:Int) (a0_2:Int) (a0_3:Int) (r:Bool) (w:World) (hr0_0:Kd.C k74 w A0_0 l0_0.length l0_0) (hc0_0:l0_0.length≤c0_0) (h:sky_isSky.f k l0_0 a0_1 a0_2 a0_3=some r):
  Calls Tryz.prog 62 #[.agg #[.slice A0_0 l0_0.length c0_0,.int .i64 a0_1,.int .i64 a0_2,.int .i64 a0_3]] w fun e w'=>e=.returned (.bool r)∧Below w.heap.size w w':=by
 have hu29:=Tryz.underlying29
 have hu25:=Tryz.underlying25
 have HR0_0:=A0_ hr0_0;have HC0_0:=A0_ hc0_0;clear hr0_0 hc0_0
 have HB:=A0_ (Below.refl w.heap.size w)
 have H:((sky_in.f (l0_0.length:Int) 2 4).bind fun t224=>(if t224=true then ((sky_isPeriod.f a0_1 a0_2).bind fun t225=>(if t225=true then ((sky_isPlace.f a0_3).bind fun t226=>(if t226=true then ((cF_isSky_c1.f k l0_0).bind fun t227=>(some (!t227))) else (some false))) else (some false))) else (some false)))=some r:=h
 clear h;replace H:=Option.bind_eq_some_iff.mp H;obtain ⟨t224,A20,H⟩:=H
 replace H:(if t224=true then ((sky_isPeriod.f a0_1 a0_2).bind fun t225=>(if t225=true then ((sky_isPlace.f a0_3).bind fun t226=>(if t226=true then ((cF_isSky_c1.f k l0_0).bind fun t227=>(some (!t227))) else (some false))) else (some false))) else (some false))=some r:=H
 have A2:=A0_ A20;clear A20
 by_cases c3:t224=true
 ·subst c3
  have H1:((sky_isPeriod.f a0_1 a0_2).bind fun t225=>(if t225=true then ((sky_isPlace.f a0_3).bind fun t226=>(if t226=true then ((cF_isSky_c1.f k l0_0).bind fun t227=>(some (!t227))) else (some false))) else (some false)))=some r:=by rw [if_pos rfl] at H;exact H
  clear H;have H:=H1;clear H1;replace H:=Option.bind_eq_some_iff.mp H;obtain ⟨t225,A40,H⟩:=H
  replace H:(if t225=true then ((sky_isPlace.f a0_3).bind fun t226=>(if t226=true then ((cF_isSky_c1.f k l0_0).bind fun t227=>(some (!t227))) else (some false))) else (some false))=some r:=H
  have A4:=A0_ A40;clear A40
  by_cases c5:t225=true
  ·subst c5
   have H1:((sky_isPlace.f a0_3).bind fun t226=>(if t226=true then ((cF_isSky_c1.f k l0_0).bind fun t227=>(some (!t227))) else (some false)))=some r:=by rw [if_pos rfl] at H;exact H
   clear H;have H:=H1;clear H1;replace H:=Option.bind_eq_some_iff.mp H;obtain ⟨t226,A60,H⟩:=H
   replace H:(if t226=true then ((cF_isSky_c1.f k l0_0).bind fun t227=>(some (!t227))) else (some false))=some r:=H
   have A6:=A0_ A60;clear A60
   by_cases c7:t226=true
   ·subst c7
    have H1:((cF_isSky_c1.f k l0_0).bind fun t227=>(some (!t227)))=some r:=by rw [if_pos rfl] at H;exact H
    clear H;have H:=H1;clear H1;replace H:=Option.bind_eq_some_iff.mp H;obtain ⟨t227,A80,H⟩:=H
    replace H:(some (!t227))=some r:=H
    have A8:=A0_ A80;clear A80;obtain rfl:=Option.some.inj H
    go_enter Tryz.func62,Tryz.ntmps62
    go_wp2_with (first|((with_reducible refine gate_dst (N:=1) rfl ?_);refine box_event ?hg (N:=1) ?hd (cs:=#[.slice A0_0 l0_0.length c0_0,.int .i64 a0_1,.int .i64 a0_2,.int .i64 a0_3]) (t:=29) ?hr ?_;(case hd=>rfl);(case hg=>rfl);(case hr=>first|(go_simp;done)|(go_simp;rfl));intro gb223 hg w9 hbox hb;have n0_:=A0_ (below_step y0_ hb);have n1_:=A0_ (hbox);have n2_:=A0_ ((by rw [hg];exact (below_size y0_):w.heap.size≤gb223));have n3_:=A0_ ((by rw [hg];exact (below_size y0_):w.heap.size≤gb223));clear HB;have HB:=n0_;have BK223:=n1_;have GW223:=n2_;have GE223:=n3_;clear n0_ n1_ n2_ n3_;clear hb hbox hg;obtain ⟨hcz10_0,hcz10_1,hcz10_2,hcz10_3,hfz10_0,hfz10_1,hfz10_2,hfz10_3⟩:=bq4_ BK223.out)|((with_reducible refine gate_callee (f:=104) rfl ?_);refine goesL_ (some 6) rfl rfl Tryz.func104 (by kernel_rfl) rfl #[.int .i64 (l0_0.length:Int),.int .i64 2,.int .i64 4] rfl y1_ ?_;(with_reducible refine (sky_in.calls (l0_0.length:Int) 2 4 true _ A2.out).mono ?_);rintro e w' ⟨rfl,⟨nd,rfl⟩⟩;refine ⟨_,rfl,?_⟩)|(go_at_call 117;(with_reducible refine (sky_isPeriod.calls a0_1 a0_2 true _ A4.out).mono ?_);rintro e w11 ⟨rfl,hb⟩;have n0_:=A0_ (blk_below (g:=gb223) (o:=.cells #[.slice A0_0 l0_0.length c0_0,.int .i64 a0_1,.int .i64 a0_2,.int .i64 a0_3] 29 (0,0)) (bd_ BK223.out) hb);have n1_:=A0_ (below_step y11_ hb);clear BK223;clear HB;have BK223:=n0_;have HB:=n1_;clear n0_ n1_;(try clear hb);(try clear hb2);(try clear hk);(try clear hi);obtain ⟨hcz12_0,hcz12_1,hcz12_2,hcz12_3,hfz12_0,hfz12_1,hfz12_2,hfz12_3⟩:=bq4_ BK223.out)|(go_at_call 118;(with_reducible refine (sky_isPlace.calls a0_3 true _ A6.out).mono ?_);rintro e w' ⟨rfl,⟨nd,rfl⟩⟩)|(go_at_call 119;(with_reducible refine (cF_isSky_c1.calls k _ _ l0_0  t227 _ ?side1 ?side2 A8.out).mono ?_);(case side1=>repeat (first|exact (Kd.C_below HR0_0.out y11_)|(with_reducible refine Kd.C_alloc ?_ _)|(with_reducible refine Kd.C_drewN ?_ _)|(with_reducible refine Kd.C_drew ?_)));(case side2=>exact HC0_0.out);rintro e w13 ⟨rfl,hb⟩;have n0_:=A0_ (blk_below (g:=gb223) (o:=.cells #[.slice A0_0 l0_0.length c0_0,.int .i64 a0_1,.int .i64 a0_2,.int .i64 a0_3] 29 (0,0)) (bd_ BK223.out) hb);have n1_:=A0_ (below_step y11_ hb);clear BK223;clear HB;have BK223:=n0_;have HB:=n1_;clear n0_ n1_;(try clear hb);(try clear hb2);(try clear hk);(try clear hi)))
    go_ret
    exact ⟨y2_,y11_⟩
   ·replace c7:=Bool.eq_false_iff.mpr c7;subst c7
    have H1:(some false)=some r:=by rw [if_neg (show ¬ (false=true) by decide)] at H;exact H
    clear H;have H:=H1;clear H1;obtain rfl:=Option.some.inj H
    go_enter Tryz.func62,Tryz.ntmps62
    go_wp2_with (first|((with_reducible refine gate_dst (N:=1) rfl ?_);refine box_event ?hg (N:=1) ?hd (cs:=#[.slice A0_0 l0_0.length c0_0,.int .i64 a0_1,.int .i64 a0_2,.int .i64 a0_3]) (t:=29) ?hr ?_;(case hd=>rfl);(case hg=>rfl);(case hr=>first|(go_simp;done)|(go_simp;rfl));intro gb223 hg w14 hbox hb;have n0_:=A0_ (below_step y0_ hb);have n1_:=A0_ (hbox);have n2_:=A0_ ((by rw [hg];exact (below_size y0_):w.heap.size≤gb223));have n3_:=A0_ ((by rw [hg];exact (below_size y0_):w.heap.size≤gb223));clear HB;have HB:=n0_;have BK223:=n1_;have GW223:=n2_;have GE223:=n3_;clear n0_ n1_ n2_ n3_;clear hb hbox hg;obtain ⟨hcz15_0,hcz15_1,hcz15_2,hcz15_3,hfz15_0,hfz15_1,hfz15_2,hfz15_3⟩:=bq4_ BK223.out)|((with_reducible refine gate_callee (f:=104) rfl ?_);refine goesL_ (some 6) rfl rfl Tryz.func104 (by kernel_rfl) rfl #[.int .i64 (l0_0.length:Int),.int .i64 2,.int .i64 4] rfl y1_ ?_;(with_reducible refine (sky_in.calls (l0_0.length:Int) 2 4 true _ A2.out).mono ?_);rintro e w' ⟨rfl,⟨nd,rfl⟩⟩;refine ⟨_,rfl,?_⟩)|(go_at_call 117;(with_reducible refine (sky_isPeriod.calls a0_1 a0_2 true _ A4.out).mono ?_);rintro e w16 ⟨rfl,hb⟩;have n0_:=A0_ (blk_below (g:=gb223) (o:=.cells #[.slice A0_0 l0_0.length c0_0,.int .i64 a0_1,.int .i64 a0_2,.int .i64 a0_3] 29 (0,0)) (bd_ BK223.out) hb);have n1_:=A0_ (below_step y11_ hb);clear BK223;clear HB;have BK223:=n0_;have HB:=n1_;clear n0_ n1_;(try clear hb);(try clear hb2);(try clear hk);(try clear hi);obtain ⟨hcz17_0,hcz17_1,hcz17_2,hcz17_3,hfz17_0,hfz17_1,hfz17_2,hfz17_3⟩:=bq4_ BK223.out)|(go_at_call 118;(with_reducible refine (sky_isPlace.calls a0_3 false _ A6.out).mono ?_);rintro e w' ⟨rfl,⟨nd,rfl⟩⟩))
    go_ret
    exact ⟨y2_,y11_⟩
  ·replace c5:=Bool.eq_false_iff.mpr c5;subst c5
   have H1:(some false)=some r:=by rw [if_neg (show ¬ (false=true) by decide)] at H;exact H
   clear H;have H:=H1;clear H1;obtain rfl:=Option.some.inj H
   go_enter Tryz.func62,Tryz.ntmps62
   go_wp2_with (first|((with_reducible refine gate_dst (N:=1) rfl ?_);refine box_event ?hg (N:=1) ?hd (cs:=#[.slice A0_0 l0_0.length c0_0,.int .i64 a0_1,.int .i64 a0_2,.int .i64 a0_3]) (t:=29) ?hr ?_;(case hd=>rfl);(case hg=>rfl);(case hr=>first|(go_simp;done)|(go_simp;rfl));intro gb223 hg w18 hbox hb;have n0_:=A0_ (below_step y0_ hb);have n1_:=A0_ (hbox);have n2_:=A0_ ((by rw [hg];exact (below_size y0_):w.heap.size≤gb223));have n3_:=A0_ ((by rw [hg];exact (below_size y0_):w.heap.size≤gb223));clear HB;have HB:=n0_;have BK223:=n1_;have GW223:=n2_;have GE223:=n3_;clear n0_ n1_ n2_ n3_;clear hb hbox hg;obtain ⟨hcz19_0,hcz19_1,hcz19_2,hcz19_3,hfz19_0,hfz19_1,hfz19_2,hfz19_3⟩:=bq4_ BK223.out)|((with_reducible refine gate_callee (f:=104) rfl ?_);refine goesL_ (some 6) rfl rfl Tryz.func104 (by kernel_rfl) rfl #[.int .i64 (l0_0.length:Int),.int .i64 2,.int .i64 4] rfl y1_ ?_;(with_reducible refine (sky_in.calls (l0_0.length:Int) 2 4 true _ A2.out).mono ?_);rintro e w' ⟨rfl,⟨nd,rfl⟩⟩;refine ⟨_,rfl,?_⟩)|(go_at_call 117;(with_reducible refine (sky_isPeriod.calls a0_1 a0_2 false _ A4.out).mono ?_);rintro e w20 ⟨rfl,hb⟩;have n0_:=A0_ (blk_below (g:=gb223) (o:=.cells #[.slice A0_0 l0_0.length c0_0,.int .i64 a0_1,.int .i64 a0_2,.int .i64 a0_3] 29 (0,0)) (bd_ BK223.out) hb);have n1_:=A0_ (below_step y11_ hb);clear BK223;clear HB;have BK223:=n0_;have HB:=n1_;clear n0_ n1_;(try clear hb);(try clear hb2);(try clear hk);(try clear hi)))
   go_ret
   exact ⟨y2_,y11_⟩
 ·replace c3:=Bool.eq_false_iff.mpr c3;subst c3
  have H1:(some false)=some r:=by rw [if_neg (show ¬ (false=true) by decide)] at H;exact H
  clear H;have H:=H1;clear H1;obtain rfl:=Option.some.inj H
  go_enter Tryz.func62,Tryz.ntmps62
  go_wp2_with (first|((with_reducible refine gate_dst (N:=1) rfl ?_);refine box_event ?hg (N:=1) ?hd (cs:=#[.slice A0_0 l0_0.length c0_0,.int .i64 a0_1,.int .i64 a0_2,.int .i64 a0_3]) (t:=29) ?hr ?_;(case hd=>rfl);(case hg=>rfl);(case hr=>first|(go_simp;done)|(go_simp;rfl));intro gb223 hg w21 hbox hb;have n0_:=A0_ (below_step y0_ hb);have n1_:=A0_ (hbox);have n2_:=A0_ ((by rw [hg];exact (below_size y0_):w.heap.size≤gb223));have n3_:=A0_ ((by rw [hg];exact (below_size y0_):w.heap.size≤gb223));clear HB;have HB:=n0_;have BK223:=n1_;have GW223:=n2_;have GE223:=n3_;clear n0_ n1_ n2_ n3_;clear hb hbox hg;obtain ⟨hcz22_0,hcz22_1,hcz22_2,hcz22_3,hfz22_0,hfz22_1,hfz22_2,hfz22_3⟩:=bq4_ BK223.out)|((with_reducible refine gate_callee (f:=104) rfl ?_);refine goesL_ (some 6) rfl rfl Tryz.func104 (by kernel_rfl) rfl #[.int .i64 (l0_0.length:Int),.int .i64 2,.int .i64 4] rfl y1_ ?_;(with_reducible refine (sky_in.calls (l0_0.length:Int) 2 4 false _ A2.out).mono ?_);rintro e w' ⟨rfl,⟨nd,rfl⟩⟩;refine ⟨_,rfl,?_⟩))
  go_ret
  exact ⟨y2_,y11_⟩
def tr_Same.l0:Nat→List Int→List Int→Int→Option (Bool)
 |0,_,_,_=>none
 |k+1,x0,x1,x5=>if x5<(x0.length:Int) then (if 0≤x5 then (if x5<(x1.length:Int) then (if (rd x0 x5)=(rd x1 x5) then (tr_Same.l0 k x0 x1 (wrap64 (x5+1))) else (some false)) else (none)) else (none)) else (some true)
def tr_Same.f (k:Nat) (l0:List Int) (l1:List Int):Option (Bool):=if (l0.length:Int)=(l1.length:Int) then (tr_Same.l0 k l0 l1 0) else (some false)
set_option maxHeartbeats 8000000 in
set_option maxRecDepth 100000 in
theorem tr_Same.calls (k:Nat) (A0:Option Addr) (c0:Nat) (l0:List Int) (A1:Option Addr) (c1:Nat) (l1:List Int) (r:Bool) (w:World) (hr0:Kd.C (Kd.int .i64) w A0 l0.length l0) (hc0:l0.length≤c0) (hr1:Kd.C (Kd.int .i64) w A1 l1.length l1) (hc1:l1.length≤c1) (h:tr_Same.f k l0 l1=some r):
  Calls Tryz.prog 23 #[.slice A0 l0.length c0,.slice A1 l1.length c1] w fun e w'=>e=.returned (.bool r)∧Drawn0 w w':=by
 have HR0:=A0_ hr0;have HC0:=A0_ hc0;clear hr0 hc0;have HR1:=A0_ hr1;have HC1:=A0_ hc1;clear hr1 hc1
 have H:(if (l0.length:Int)=(l1.length:Int) then (tr_Same.l0 k l0 l1 0) else (some false))=some r:=h
 clear h
 by_cases c3:(l0.length:Int)=(l1.length:Int)
 ·rw [if_pos c3] at H
  have c3b0:((l0.length:Int) == (l1.length:Int))=true:=beq_iff_eq.mpr c3
  have c3b1:((l0.length:Int) != (l1.length:Int))=false:=bne_eq_false_iff_eq.mpr c3
  have c3b2:(l0.length == l1.length)=true:=by first|simpa using c3|(simp at c3 ⊢;omega)
  clear c3
  have H':=A0_ H
  clear H
  go_enter Tryz.func23,Tryz.ntmps23
  go_wp2
  repeat (go_quiet (fail);try go_wp2)
  go_loopg [5] k (fun kq v5 w'=>∃ (x5_1:Int),v5=.int .i64 x5_1∧Aside0 (tr_Same.l0 kq l0 l1 x5_1=some r)∧Aside0 (kq≤k)∧Drawn0 w w')
  case atStart=>exact ⟨(0),y4_,H',⟨Nat.le_refl _⟩,yb_⟩
  case round=>
   clear H'
   (try clear c1);(try clear c2);(try clear p2);(try clear c3);(try clear c3b0);(try clear c3b1);(try clear c3b2)
   obtain ⟨x5_1,rfl,HA,HK1,⟨m1,rfl⟩⟩:=hrel
   cases gk with
   |zero=>exact absurd HA.out (by simp [tr_Same.l0])
   |succ k1=>
    have H:=HA.out
    clear HA
    simp only [tr_Same.l0] at H
    by_cases c4:x5_1<(l0.length:Int)
    ·rw [if_pos c4] at H;have c4b0:decide (x5_1<(l0.length:Int))=true:=decide_eq_true c4;clear c4
     by_cases c5:0≤x5_1
     ·rw [if_pos c5] at H;have c5b0:decide (0≤x5_1)=true:=decide_eq_true c5;clear c5
      by_cases c6:x5_1<(l1.length:Int)
      ·rw [if_pos c6] at H;have c6b0:decide (x5_1<(l1.length:Int))=true:=decide_eq_true c6;clear c6
       by_cases c7:(rd l0 x5_1)=(rd l1 x5_1)
       ·rw [if_pos c7] at H
        have c7b0:((rd l0 x5_1) == (rd l1 x5_1))=true:=beq_iff_eq.mpr c7
        have c7b1:((rd l0 x5_1) != (rd l1 x5_1))=false:=bne_eq_false_iff_eq.mpr c7
        clear c7
        have H':=A0_ H
        clear H
        have p317:0≤(x5_1:Int):=of_decide_eq_true y5_
        have q317:x5_1<(l0.length:Int):=of_decide_eq_true y5_
        obtain ⟨ad317,e317,hx317_0⟩:=Kd.at_int HR0.out x5_1 p317 q317
        cases e317
        replace p317:=eq_true p317
        replace q317:=eq_true q317
        have p318:0≤(x5_1:Int):=of_decide_eq_true y5_
        have q318:x5_1<(l1.length:Int):=of_decide_eq_true y5_
        obtain ⟨ad318,e318,hx318_0⟩:=Kd.at_int HR1.out x5_1 p318 q318
        cases e318
        replace p318:=eq_true p318
        replace q318:=eq_true q318
        go_wp2
        repeat (go_quiet (fail);try go_wp2)
        go_roundg k1
        case measure=>have:=HK1.out;omega
        case rel=>exact ⟨(wrap64 (x5_1+1)),y4_,H',⟨by have:=HK1.out;omega⟩,yb_⟩
       ·rw [if_neg c7] at H
        have c7b0:((rd l0 x5_1) == (rd l1 x5_1))=false:=beq_eq_false_iff_ne.mpr c7
        have c7b1:((rd l0 x5_1) != (rd l1 x5_1))=true:=bne_iff_ne.mpr c7
        obtain rfl:=Option.some.inj H
        have p317:0≤(x5_1:Int):=of_decide_eq_true y5_
        have q317:x5_1<(l0.length:Int):=of_decide_eq_true y5_
        obtain ⟨ad317,e317,hx317_0⟩:=Kd.at_int HR0.out x5_1 p317 q317
        cases e317
        replace p317:=eq_true p317
        replace q317:=eq_true q317
        have p318:0≤(x5_1:Int):=of_decide_eq_true y5_
        have q318:x5_1<(l1.length:Int):=of_decide_eq_true y5_
        obtain ⟨ad318,e318,hx318_0⟩:=Kd.at_int HR1.out x5_1 p318 q318
        cases e318
        replace p318:=eq_true p318
        replace q318:=eq_true q318
        go_wp2
        repeat (go_quiet (fail);try go_wp2)
        go_ret
        exact ⟨y4_,yb_⟩
      ·rw [if_neg c6] at H;exact absurd H (by simp)
     ·rw [if_neg c5] at H;exact absurd H (by simp)
    ·rw [if_neg c4] at H;have c4b0:decide (x5_1<(l0.length:Int))=false:=decide_eq_false c4;clear c4;obtain rfl:=Option.some.inj H;go_wp2
     repeat (go_quiet (fail);try go_wp2)
     go_ret
     exact ⟨y4_,yb_⟩
 ·rw [if_neg c3] at H
  have c3b0:((l0.length:Int) == (l1.length:Int))=false:=beq_eq_false_iff_ne.mpr c3
  have c3b1:((l0.length:Int) != (l1.length:Int))=true:=bne_iff_ne.mpr c3
  have c3b2:(l0.length == l1.length)=false:=by first|simpa using c3|(simp at c3 ⊢;omega)
  obtain rfl:=Option.some.inj H
  go_enter Tryz.func23,Tryz.ntmps23
  go_wp2
  repeat (go_quiet (fail);try go_wp2)
  go_ret
  exact ⟨y4_,yb_⟩
def sky_isBody.f (l0_0:List (S74)) (a0_1:Int) (a0_2:Int) (a0_3:Int) (a1:Int):Option (Bool):=(sky_in.f a1 0 (wrap64 ((l0_0.length:Int) - 1))).bind fun t360=>(some t360)
set_option maxHeartbeats 8000000 in
set_option maxRecDepth 100000 in
theorem sky_isBody.calls (A0_0:Option Addr) (c0_0:Nat) (l0_0:List (S74)) (a0_1:Int) (a0_2:Int) (a0_3:Int) (a1:Int) (r:Bool) (w:World) (hr0_0:Kd.C k74 w A0_0 l0_0.length l0_0) (hc0_0:l0_0.length≤c0_0) (h:sky_isBody.f l0_0 a0_1 a0_2 a0_3 a1=some r):
  Calls Tryz.prog 78 #[.agg #[.slice A0_0 l0_0.length c0_0,.int .i64 a0_1,.int .i64 a0_2,.int .i64 a0_3],.int .i64 a1] w fun e w'=>e=.returned (.bool r)∧Below w.heap.size w w':=by
 have hu29:=Tryz.underlying29
 have HR0_0:=A0_ hr0_0;have HC0_0:=A0_ hc0_0;clear hr0_0 hc0_0
 have HB:=A0_ (Below.refl w.heap.size w)
 have H:((sky_in.f a1 0 (wrap64 ((l0_0.length:Int) - 1))).bind fun t360=>(some t360))=some r:=h
 clear h;replace H:=Option.bind_eq_some_iff.mp H;obtain ⟨t360,A30,H⟩:=H
 replace H:(some t360)=some r:=H
 have A3:=A0_ A30;clear A30;obtain rfl:=Option.some.inj H
 go_enter Tryz.func78,Tryz.ntmps78
 go_wp2_with (first|((with_reducible refine gate_dst (N:=2) rfl ?_);refine box_event ?hg (N:=2) ?hd (cs:=#[.slice A0_0 l0_0.length c0_0,.int .i64 a0_1,.int .i64 a0_2,.int .i64 a0_3]) (t:=29) ?hr ?_;(case hd=>rfl);(case hg=>rfl);(case hr=>first|(go_simp;done)|(go_simp;rfl));intro gb359 hg w4 hbox hb;have n0_:=A0_ (below_step y0_ hb);have n1_:=A0_ (hbox);have n2_:=A0_ ((by rw [hg];exact (below_size y0_):w.heap.size≤gb359));have n3_:=A0_ ((by rw [hg];exact (below_size y0_):w.heap.size≤gb359));clear HB;have HB:=n0_;have BK359:=n1_;have GW359:=n2_;have GE359:=n3_;clear n0_ n1_ n2_ n3_;clear hb hbox hg;obtain ⟨hcz5_0,hcz5_1,hcz5_2,hcz5_3,hfz5_0,hfz5_1,hfz5_2,hfz5_3⟩:=bq4_ BK359.out)|((with_reducible refine gate_callee (f:=104) rfl ?_);refine goesL_ (some 10) rfl rfl Tryz.func104 (by kernel_rfl) rfl #[.int .i64 a1,.int .i64 0,.int .i64 (wrap64 ((l0_0.length:Int) - 1))] rfl y1_ ?_;(with_reducible refine (sky_in.calls a1 0 (wrap64 ((l0_0.length:Int) - 1)) t360 _ A3.out).mono ?_);rintro e w' ⟨rfl,⟨nd,rfl⟩⟩;refine ⟨_,rfl,?_⟩))
 go_ret
 exact ⟨y2_,(by repeat (first|(with_reducible first|exact HB.out|apply below_alloc|apply pw_below_drewN|apply below_drew1|refine below_set ?_ GE359.out)|exact HB.out))⟩
def sky_isDay.f (a0:Int):Option (Bool):=(sky_in.f a0 0 20000).bind fun t361=>(some t361)
set_option maxHeartbeats 8000000 in
set_option maxRecDepth 100000 in
theorem sky_isDay.calls (a0:Int) (r:Bool) (w:World) (h:sky_isDay.f a0=some r):
  Calls Tryz.prog 79 #[.int .i64 a0] w fun e w'=>e=.returned (.bool r)∧Drawn0 w w':=by
 have H:((sky_in.f a0 0 20000).bind fun t361=>(some t361))=some r:=h
 clear h;replace H:=Option.bind_eq_some_iff.mp H;obtain ⟨t361,A20,H⟩:=H
 replace H:(some t361)=some r:=H
 have A2:=A0_ A20;clear A20;obtain rfl:=Option.some.inj H
 go_enter Tryz.func79,Tryz.ntmps79
 go_wp2_with (first|((with_reducible refine gate_callee (f:=104) rfl ?_);refine goesL_ (some 4) rfl rfl Tryz.func104 (by kernel_rfl) rfl #[.int .i64 a0,.int .i64 0,.int .i64 20000] rfl y1_ ?_;(with_reducible refine (sky_in.calls a0 0 20000 t361 _ A2.out).mono ?_);rintro e w' ⟨rfl,⟨nd,rfl⟩⟩;refine ⟨_,rfl,?_⟩))
 go_ret
 exact ⟨y4_,yb_⟩
def sky_floor.f (a0:Int) (a1:Int):Option (Int × Int):=if a1=0 then (none) else (if (Int.tmod a0 a1)<0 then (some (wrap64 ((wrap64 (Int.tdiv a0 a1)) - 1),wrap64 ((Int.tmod a0 a1)+a1))) else (some (wrap64 (Int.tdiv a0 a1),Int.tmod a0 a1)))
set_option maxHeartbeats 8000000 in
set_option maxRecDepth 100000 in
theorem sky_floor.calls (a0:Int) (a1:Int) (r1:Int) (r2:Int) (w:World) (h:sky_floor.f a0 a1=some (r1,r2)):
  Calls Tryz.prog 130 #[.int .i64 a0,.int .i64 a1] w fun e w'=>e=.returned (.tuple #[.int .i64 r1,.int .i64 r2])∧Drawn0 w w':=by
 have H:(if a1=0 then (none) else (if (Int.tmod a0 a1)<0 then (some (wrap64 ((wrap64 (Int.tdiv a0 a1)) - 1),wrap64 ((Int.tmod a0 a1)+a1))) else (some (wrap64 (Int.tdiv a0 a1),Int.tmod a0 a1))))=some (r1,r2):=h
 clear h
 by_cases c3:a1=0
 ·rw [if_pos c3] at H;exact absurd H (by simp)
 ·rw [if_neg c3] at H
  have c3b0:(a1 == 0)=false:=beq_eq_false_iff_ne.mpr c3
  have c3b1:(a1 != 0)=true:=bne_iff_ne.mpr c3
  by_cases c4:(Int.tmod a0 a1)<0
  ·rw [if_pos c4] at H;have c4b0:decide ((Int.tmod a0 a1)<0)=true:=decide_eq_true c4;clear c4
   simp only [Option.some.injEq,Prod.mk.injEq] at H
   obtain ⟨rfl,rfl⟩:=H
   go_enter Tryz.func130,Tryz.ntmps130
   go_wp2
   repeat (go_quiet (fail);try go_wp2)
   go_ret2
   exact ⟨y4_,yb_⟩
  ·rw [if_neg c4] at H;have c4b0:decide ((Int.tmod a0 a1)<0)=false:=decide_eq_false c4;clear c4
   simp only [Option.some.injEq,Prod.mk.injEq] at H
   obtain ⟨rfl,rfl⟩:=H
   go_enter Tryz.func130,Tryz.ntmps130
   go_wp2
   repeat (go_quiet (fail);try go_wp2)
   go_ret2
   exact ⟨y4_,yb_⟩
def sky_around.f (a0:Int):Option (Int):=(sky_floor.f a0 21600).bind fun bt362=>(some bt362.2)
set_option maxHeartbeats 8000000 in
set_option maxRecDepth 100000 in
theorem sky_around.calls (a0:Int) (r:Int) (w:World) (h:sky_around.f a0=some r):
  Calls Tryz.prog 80 #[.int .i64 a0] w fun e w'=>e=.returned (.int .i64 r)∧Drawn0 w w':=by
 have H:((sky_floor.f a0 21600).bind fun bt362=>(some bt362.2))=some r:=h
 clear h;replace H:=Option.bind_eq_some_iff.mp H
 obtain ⟨⟨t362,t363⟩,A20,H⟩:=H
 replace H:(some t363)=some r:=H
 have A2:=A0_ A20;clear A20;obtain rfl:=Option.some.inj H
 go_enter Tryz.func80,Tryz.ntmps80
 go_wp2_with (first|((with_reducible refine gate_callee (f:=130) rfl ?_);refine goesL_ (some 7) rfl rfl Tryz.func130 (by kernel_rfl) rfl #[.int .i64 a0,.int .i64 21600] rfl y1_ ?_;(with_reducible refine (sky_floor.calls a0 21600 t362 t363 _ A2.out).mono ?_);rintro e w' ⟨rfl,⟨nd,rfl⟩⟩;refine ⟨_,rfl,?_⟩))
 go_ret
 exact ⟨y4_,yb_⟩
def sky_sum.l0:Nat→Int→List Int→Int→Int→Option (Int)
 |0,_,_,_,_=>none
 |k+1,x3,x6,x7,x8=>if x8<x7 then (if 0≤x8 then (if x8<(x6.length:Int) then (sky_sum.l0 k (wrap64 (x3+(rd x6 x8))) x6 x7 (wrap64 (x8+1))) else (none)) else (none)) else (some x3)
def sky_sum.f (k:Nat) (l0:List Int):Option (Int):=sky_sum.l0 k 0 l0 (l0.length:Int) 0
theorem sky_sum.mono_l:∀ k,(∀ y0 y1 y2 y3,LeO (sky_sum.l0 k y0 y1 y2 y3) (sky_sum.l0 (k+1) y0 y1 y2 y3))
 |0=>fun _ _ _ _ r h=>by simp [sky_sum.l0] at h
 |k+1=>by
  have ih0:=sky_sum.mono_l k
  ·intro y0 y1 y2 y3
   unfold sky_sum.l0
   repeat' first
   |(with_reducible exact ih0 _ _ _ _)
   |(with_reducible exact LeO.refl _)
   |(with_reducible exact LeO.none _)
   |(with_reducible refine LeO.ite ?_ ?_)
   |(with_reducible refine LeO.bind ?_ (fun _=>?_))
   |exact ih0 _ _ _ _
   |exact LeO.none _
   |refine LeO.ite ?_ ?_
   |refine LeO.bind ?_ (fun _=>?_)
theorem sky_sum.mono:∀ a0 k,LeO (sky_sum.f k a0) (sky_sum.f (k+1) a0):=by
 intro a0 k
 have ih0:=sky_sum.mono_l k
 unfold sky_sum.f
 repeat' first
   |(with_reducible exact ih0 _ _ _ _)
   |(with_reducible exact LeO.refl _)
   |(with_reducible exact LeO.none _)
   |(with_reducible refine LeO.ite ?_ ?_)
   |(with_reducible refine LeO.bind ?_ (fun _=>?_))
   |exact ih0 _ _ _ _
   |exact LeO.none _
   |refine LeO.ite ?_ ?_
   |refine LeO.bind ?_ (fun _=>?_)
set_option maxHeartbeats 8000000 in
set_option maxRecDepth 100000 in
theorem sky_sum.calls (k:Nat) (A0:Option Addr) (c0:Nat) (l0:List Int) (r:Int) (w:World) (hr0:Kd.C (Kd.int .i64) w A0 l0.length l0) (hc0:l0.length≤c0) (h:sky_sum.f k l0=some r):
  Calls Tryz.prog 131 #[.slice A0 l0.length c0] w fun e w'=>e=.returned (.int .i64 r)∧Drawn0 w w':=by
 have HR0:=A0_ hr0;have HC0:=A0_ hc0;clear hr0 hc0
 have H:(sky_sum.l0 k 0 l0 (l0.length:Int) 0)=some r:=h
 clear h
 have H':=A0_ H
 clear H
 go_enter Tryz.func131,Tryz.ntmps131
 go_wp2
 go_loopg [3,8] k (fun kq v3 v8 w'=>∃ (x3_1:Int) (x8_1:Int),v3=.int .i64 x3_1∧v8=.int .i64 x8_1∧Aside0 (sky_sum.l0 kq x3_1 l0 (l0.length:Int) x8_1=some r)∧Aside0 (kq≤k)∧Drawn0 w w')
 case atStart=>exact ⟨(0),(0),y4_,y4_,H',⟨Nat.le_refl _⟩,yb_⟩
 case round=>
  clear H'
  (try clear c1)
  obtain ⟨x3_1,x8_1,rfl,rfl,HA,HK1,⟨m1,rfl⟩⟩:=hrel
  cases gk with
  |zero=>exact absurd HA.out (by simp [sky_sum.l0])
  |succ k1=>
   have H:=HA.out
   clear HA
   simp only [sky_sum.l0] at H
   by_cases c2:x8_1<(l0.length:Int)
   ·rw [if_pos c2] at H;have c2b0:decide (x8_1<(l0.length:Int))=true:=decide_eq_true c2;clear c2
    by_cases c3:0≤x8_1
    ·rw [if_pos c3] at H;have c3b0:decide (0≤x8_1)=true:=decide_eq_true c3;clear c3
     by_cases c4:x8_1<(l0.length:Int)
     ·rw [if_pos c4] at H;have c4b0:decide (x8_1<(l0.length:Int))=true:=decide_eq_true c4;clear c4
      have H':=A0_ H
      clear H
      have p364:0≤(x8_1:Int):=of_decide_eq_true y5_
      have q364:x8_1<(l0.length:Int):=of_decide_eq_true y5_
      obtain ⟨ad364,e364,hx364_0⟩:=Kd.at_int HR0.out x8_1 p364 q364
      cases e364
      replace p364:=eq_true p364
      replace q364:=eq_true q364
      go_wp2
      go_roundg k1
      case measure=>have:=HK1.out;omega
      case rel=>exact ⟨(wrap64 (x3_1+(rd l0 x8_1))),(wrap64 (x8_1+1)),y4_,y4_,H',⟨by have:=HK1.out;omega⟩,yb_⟩
     ·rw [if_neg c4] at H;exact absurd H (by simp)
    ·rw [if_neg c3] at H;exact absurd H (by simp)
   ·rw [if_neg c2] at H;have c2b0:decide (x8_1<(l0.length:Int))=false:=decide_eq_false c2;clear c2;obtain rfl:=Option.some.inj H;go_wp2;go_ret
    exact ⟨y4_,yb_⟩
end Go.Proofs.YtjahbgldccjbfaaGreatDoor.PSky
end
section
namespace Go.Proofs.YtjahbgldccjbfaaGreatDoor.PSky
open Go.RowKit Go.Proofs.YtjahbgldccjbfaaGreatDoorW.PrintWords Go.Proofs.YtjahbgldccjbfaaGreatDoorW.PrintLast Go.Proofs.YtjahbgldccjbfaaGreatDoorW.PrintMore
attribute [local go_sem] max2_int min2_int max_two min_two max_three min_three max_four min_four
set_option linter.unusedVariables false
set_option linter.unusedSimpArgs false
def ss_gone.f (l0_0:List (S74)) (a0_1:Int) (a0_2:Int) (a0_3:Int) (a0_4:Int) (a1_0:Int) (a1_1:Int):Option (Int):=(sky_floor.f (wrap64 ((wrap64 (a0_4*21600))*a1_1)) a1_0).bind fun bt367=>(some bt367.1)
set_option maxHeartbeats 8000000 in
set_option maxRecDepth 100000 in
theorem ss_gone.calls (A0_0:Option Addr) (c0_0:Nat) (l0_0:List (S74)) (a0_1:Int) (a0_2:Int) (a0_3:Int) (a0_4:Int) (a1_0:Int) (a1_1:Int) (r:Int) (w:World) (hr0_0:Kd.C k74 w A0_0 l0_0.length l0_0) (hc0_0:l0_0.length≤c0_0) (h:ss_gone.f l0_0 a0_1 a0_2 a0_3 a0_4 a1_0 a1_1=some r):
  Calls Tryz.prog 134 #[.agg #[.slice A0_0 l0_0.length c0_0,.int .i64 a0_1,.int .i64 a0_2,.int .i64 a0_3,.int .i64 a0_4],.agg #[.int .i64 a1_0,.int .i64 a1_1]] w fun e w'=>e=.returned (.int .i64 r)∧Below w.heap.size w w':=by
 have hu112:=Tryz.underlying112
 have hu25:=Tryz.underlying25
 have HR0_0:=A0_ hr0_0;have HC0_0:=A0_ hc0_0;clear hr0_0 hc0_0
 have HB:=A0_ (Below.refl w.heap.size w)
 have H:((sky_floor.f (wrap64 ((wrap64 (a0_4*21600))*a1_1)) a1_0).bind fun bt367=>(some bt367.1))=some r:=h
 clear h;replace H:=Option.bind_eq_some_iff.mp H
 obtain ⟨⟨t367,t368⟩,A30,H⟩:=H
 replace H:(some t367)=some r:=H
 have A3:=A0_ A30;clear A30;obtain rfl:=Option.some.inj H
 go_enter Tryz.func134,Tryz.ntmps134
 go_wp2_with (first|((with_reducible refine gate_dst (N:=2) rfl ?_);refine box_event ?hg (N:=2) ?hd (cs:=#[.slice A0_0 l0_0.length c0_0,.int .i64 a0_1,.int .i64 a0_2,.int .i64 a0_3,.int .i64 a0_4]) (t:=112) ?hr ?_;(case hd=>rfl);(case hg=>rfl);(case hr=>first|(go_simp;done)|(go_simp;rfl));intro gb365 hg w4 hbox hb;have n0_:=A0_ (below_step y0_ hb);have n1_:=A0_ (hbox);have n2_:=A0_ ((by rw [hg];exact (below_size y0_):w.heap.size≤gb365));have n3_:=A0_ ((by rw [hg];exact (below_size y0_):w.heap.size≤gb365));clear HB;have HB:=n0_;have BK365:=n1_;have GW365:=n2_;have GE365:=n3_;clear n0_ n1_ n2_ n3_;clear hb hbox hg)|((with_reducible refine gate_dst (N:=3) rfl ?_);refine box_event ?hg (N:=3) ?hd (cs:=#[.int .i64 a1_0,.int .i64 a1_1]) (t:=25) ?hr ?_;(case hd=>rfl);(case hg=>rfl);(case hr=>first|(go_simp;done)|(go_simp;rfl));intro gb366 hg w5 hbox hb;have n0_:=A0_ (blk_below (g:=gb365) (o:=.cells #[.slice A0_0 l0_0.length c0_0,.int .i64 a0_1,.int .i64 a0_2,.int .i64 a0_3,.int .i64 a0_4] 112 (0,0)) (bd_ BK365.out) hb);have n1_:=A0_ (below_step y2w_ hb);have n2_:=A0_ (hbox);have n3_:=A0_ ((by rw [hg];exact (below_size y2w_):w.heap.size≤gb366));have n4_:=A0_ ((by rw [hg];exact (below_size y2w_):w.heap.size≤gb366));have n5_:=A0_ ((by rw [hg];exact Nat.ne_of_lt (blk_lt (g:=gb365) (o:=.cells #[.slice A0_0 l0_0.length c0_0,.int .i64 a0_1,.int .i64 a0_2,.int .i64 a0_3,.int .i64 a0_4] 112 (0,0)) (bd_ BK365.out)):gb365≠gb366));have n6_:=A0_ ((by rw [hg];exact Nat.ne_of_gt (blk_lt (g:=gb365) (o:=.cells #[.slice A0_0 l0_0.length c0_0,.int .i64 a0_1,.int .i64 a0_2,.int .i64 a0_3,.int .i64 a0_4] 112 (0,0)) (bd_ BK365.out)):gb366≠gb365));clear BK365;clear HB;have BK365:=n0_;have HB:=n1_;have BK366:=n2_;have GW366:=n3_;have GE366:=n4_;have NB365_366:=n5_;have NB366_365:=n6_;clear n0_ n1_ n2_ n3_ n4_ n5_ n6_;clear hb hbox hg;have hnb6:=NB365_366.out;have hnc6:=NB366_365.out;obtain ⟨hcz7_0,hcz7_1,hcz7_2,hcz7_3,hcz7_4,hfz7_0,hfz7_1,hfz7_2,hfz7_3,hfz7_4⟩:=bq5_ BK365.out;obtain ⟨hcz8_0,hcz8_1,hfz8_0,hfz8_1⟩:=bq2_ BK366.out)|((with_reducible refine gate_callee (f:=130) rfl ?_);refine goesL_ (some 16) rfl rfl Tryz.func130 (by kernel_rfl) rfl #[.int .i64 (wrap64 ((wrap64 (a0_4*21600))*a1_1)),.int .i64 a1_0] rfl y1_ ?_;(with_reducible refine (sky_floor.calls (wrap64 ((wrap64 (a0_4*21600))*a1_1)) a1_0 t367 t368 _ A3.out).mono ?_);rintro e w' ⟨rfl,⟨nd,rfl⟩⟩;refine ⟨_,rfl,?_⟩))
 go_ret
 exact ⟨y2_,(by repeat (first|(with_reducible first|exact HB.out|apply below_alloc|apply pw_below_drewN|apply below_drew1|refine below_set ?_ GE365.out|refine below_set ?_ GE366.out)|exact HB.out))⟩
def ss_mean.f (k:Nat) (l0_0:List (S74)) (a0_1:Int) (a0_2:Int) (a0_3:Int) (a0_4:Int) (a1:Int):Option (Int):=if 0≤a1 then (if a1<(l0_0.length:Int) then ((ss_gone.f l0_0 a0_1 a0_2 a0_3 a0_4 ((rd_T74 l0_0 a1).f0.f0) ((rd_T74 l0_0 a1).f0.f1)).bind fun t372=>((sky_sum.f k (([(rd_T74 l0_0 a1).f1,t372]:List Int))).bind fun t376=>(some t376))) else (none)) else (none)
theorem ss_mean.mono:∀ a0 a1 a2 a3 a4 a5 k,LeO (ss_mean.f k a0 a1 a2 a3 a4 a5) (ss_mean.f (k+1) a0 a1 a2 a3 a4 a5):=by
 intro a0 a1 a2 a3 a4 a5 k
 unfold ss_mean.f
 repeat' first
   |(with_reducible exact sky_sum.mono _ _)
   |(with_reducible exact LeO.refl _)
   |(with_reducible exact LeO.none _)
   |(with_reducible refine LeO.ite ?_ ?_)
   |(with_reducible refine LeO.bind ?_ (fun _=>?_))
   |exact sky_sum.mono _ _
   |exact LeO.none _
   |refine LeO.ite ?_ ?_
   |refine LeO.bind ?_ (fun _=>?_)
def ss_mean.T2:Bool × List (List Nat × List Nat):=(true,[([],[]),([0],[0]),([],[]),([],[]),([3],[3]),([2,4],[2,4]),([1,5],[1,5]),([6,5],[6]),([7,7,0,1,2,3,4,5,6,7],[7])])
def ss_mean.B2:List Nat:=[0,1,0,0,8,28,63,127,255]
theorem ss_mean.tab2:rtab .any (opsOf Tryz.f94 2)=ss_mean.T2:=by kernel_rfl
theorem ss_mean.bits2:waitsOk ss_mean.T2.2 ss_mean.B2=true:=by kernel_rfl
set_option maxHeartbeats 8000000 in
set_option maxRecDepth 100000 in
theorem ss_mean.calls (k:Nat) (A0_0:Option Addr) (c0_0:Nat) (l0_0:List (S74)) (a0_1:Int) (a0_2:Int) (a0_3:Int) (a0_4:Int) (a1:Int) (r:Int) (w:World) (hr0_0:Kd.C k74 w A0_0 l0_0.length l0_0) (hc0_0:l0_0.length≤c0_0) (h:ss_mean.f k l0_0 a0_1 a0_2 a0_3 a0_4 a1=some r):
  Calls Tryz.prog 94 #[.agg #[.slice A0_0 l0_0.length c0_0,.int .i64 a0_1,.int .i64 a0_2,.int .i64 a0_3,.int .i64 a0_4],.int .i64 a1] w fun e w'=>e=.returned (.int .i64 r)∧Below w.heap.size w w':=by
 have hu112:=Tryz.underlying112
 have hu74:=Tryz.underlying74
 have hu25:=Tryz.underlying25
 have HR0_0:=A0_ hr0_0;have HC0_0:=A0_ hc0_0;clear hr0_0 hc0_0
 have HB:=A0_ (Below.refl w.heap.size w)
 have H:(if 0≤a1 then (if a1<(l0_0.length:Int) then ((ss_gone.f l0_0 a0_1 a0_2 a0_3 a0_4 ((rd_T74 l0_0 a1).f0.f0) ((rd_T74 l0_0 a1).f0.f1)).bind fun t372=>((sky_sum.f k (([(rd_T74 l0_0 a1).f1,t372]:List Int))).bind fun t376=>(some t376))) else (none)) else (none))=some r:=h
 clear h
 by_cases c3:0≤a1
 ·rw [if_pos c3] at H;have c3b0:decide (0≤a1)=true:=decide_eq_true c3;clear c3
  by_cases c4:a1<(l0_0.length:Int)
  ·rw [if_pos c4] at H;have c4b0:decide (a1<(l0_0.length:Int))=true:=decide_eq_true c4;clear c4;replace H:=Option.bind_eq_some_iff.mp H;obtain ⟨t372,A50,H⟩:=H
   replace H:((sky_sum.f k (([(rd_T74 l0_0 a1).f1,t372]:List Int))).bind fun t376=>(some t376))=some r:=H
   have A5:=A0_ A50;clear A50
   obtain ⟨y373,hy373⟩:∃ y_:List Int,y_=(([(rd_T74 l0_0 a1).f1,t372]:List Int)):=⟨_,rfl⟩
   replace H:((sky_sum.f k y373).bind fun t376=>(some t376))=some r:=by first|(rw [hy373];with_reducible exact H)|(have H2_:=(Option.bind_some _ _).symm.trans H;rw [hy373];with_reducible exact H2_)|(have H2_:=(Option.bind_some _ _).symm.trans H;with_reducible exact H2_)|with_reducible exact H|(rw [hy373];exact H)|exact H
   have Ny373:=A0_ hy373;clear hy373;replace H:=Option.bind_eq_some_iff.mp H;obtain ⟨t376,A60,H⟩:=H
   replace H:(some t376)=some r:=H
   have A6:=A0_ A60;clear A60;obtain rfl:=Option.some.inj H
   go_enter Tryz.func94,Tryz.ntmps94
   try go_wp2_with (first|((with_reducible refine gate_dst (N:=2) rfl ?_);refine box_event ?hg (N:=2) ?hd (cs:=#[.slice A0_0 l0_0.length c0_0,.int .i64 a0_1,.int .i64 a0_2,.int .i64 a0_3,.int .i64 a0_4]) (t:=112) ?hr ?_;(case hd=>rfl);(case hg=>rfl);(case hr=>first|(go_simp;done)|(go_simp;rfl));intro gb369 hg w7 hbox hb;have n0_:=A0_ (below_step y0_ hb);have n1_:=A0_ (hbox);have n2_:=A0_ ((by rw [hg];exact (below_size y0_):w.heap.size≤gb369));have n3_:=A0_ ((by rw [hg];exact (below_size y0_):w.heap.size≤gb369));clear HB;have HB:=n0_;have BK369:=n1_;have GW369:=n2_;have GE369:=n3_;clear n0_ n1_ n2_ n3_;clear hb hbox hg;obtain ⟨hcz8_0,hcz8_1,hcz8_2,hcz8_3,hcz8_4,hfz8_0,hfz8_1,hfz8_2,hfz8_3,hfz8_4⟩:=bq5_ BK369.out;have p370:0≤(a1:Int):=of_decide_eq_true y5_;have q370:a1<(l0_0.length:Int):=of_decide_eq_true y5_;obtain ⟨ad370,A370_3,c370_3,e370,hx370_0,hx370_1,hx370_2,hx370_3,hl370_3,hi370_3⟩:=at_T74 HR0_0.out a1 p370 q370;cases e370;replace hx370_0:=(HB.out.cell (World.block_lt_of_cell? w _ hx370_0)).trans hx370_0;replace hx370_1:=(HB.out.cell (World.block_lt_of_cell? w _ hx370_1)).trans hx370_1;replace hx370_2:=(HB.out.cell (World.block_lt_of_cell? w _ hx370_2)).trans hx370_2;replace hx370_3:=(HB.out.cell (World.block_lt_of_cell? w _ hx370_3)).trans hx370_3;have HR370_3:=A0_ hi370_3;have HC370_3:=A0_ hl370_3;clear hi370_3 hl370_3;replace p370:=eq_true p370;replace q370:=eq_true q370)|((with_reducible refine gate_dst (N:=5) rfl ?_);refine box_event ?hg (N:=5) ?hd (cs:=#[.int .i64 0,.int .i64 0,.int .i64 0,.slice none 0 0]) (t:=74) ?hr ?_;(case hd=>rfl);(case hg=>rfl);(case hr=>first|(go_simp;done)|(go_simp;rfl));intro gb371 hg w9 hbox hb;have n0_:=A0_ (blk_below (g:=gb369) (o:=.cells #[.slice (some ad370) l0_0.length c0_0,.int .i64 a0_1,.int .i64 a0_2,.int .i64 a0_3,.int .i64 a0_4] 112 (0,0)) (bd_ BK369.out) hb);have n1_:=A0_ (below_step y2v_ hb);have n2_:=A0_ (hbox);have n3_:=A0_ ((by rw [hg];exact (below_size y2v_):w.heap.size≤gb371));have n4_:=A0_ ((by rw [hg];exact (below_size y2v_):w.heap.size≤gb371));have n5_:=A0_ ((by rw [hg];exact Nat.ne_of_lt (blk_lt (g:=gb369) (o:=.cells #[.slice (some ad370) l0_0.length c0_0,.int .i64 a0_1,.int .i64 a0_2,.int .i64 a0_3,.int .i64 a0_4] 112 (0,0)) (bd_ BK369.out)):gb369≠gb371));have n6_:=A0_ ((by rw [hg];exact Nat.ne_of_gt (blk_lt (g:=gb369) (o:=.cells #[.slice (some ad370) l0_0.length c0_0,.int .i64 a0_1,.int .i64 a0_2,.int .i64 a0_3,.int .i64 a0_4] 112 (0,0)) (bd_ BK369.out)):gb371≠gb369));clear BK369;clear HB;have BK369:=n0_;have HB:=n1_;have BK371:=n2_;have GW371:=n3_;have GE371:=n4_;have NB369_371:=n5_;have NB371_369:=n6_;clear n0_ n1_ n2_ n3_ n4_ n5_ n6_;clear hb hbox hg;have hnb10:=NB371_369.out;have hnc10:=NB369_371.out;obtain ⟨hcz11_0,hcz11_1,hcz11_2,hcz11_3,hfz11_0,hfz11_1,hfz11_2,hfz11_3⟩:=bq4_ BK371.out))
   have n0_:Aside0 (((((w9.setCell ⟨gb371,0,none⟩ (.int .i64 ((rd_T74 l0_0 a1).f0.f0))).setCell ⟨gb371,1,none⟩ (.int .i64 ((rd_T74 l0_0 a1).f0.f1))).setCell ⟨gb371,2,none⟩ (.int .i64 ((rd_T74 l0_0 a1).f1))).setCell ⟨gb371,3,none⟩ (.slice A370_3 ((rd_T74 l0_0 a1).f2).length c370_3)).heap[gb369]?=some (.cells #[.slice (some ad370) l0_0.length c0_0,.int .i64 a0_1,.int .i64 a0_2,.int .i64 a0_3,.int .i64 a0_4] 112 (0,0))):=⟨by (with_reducible repeat (first|refine blk_drewN ?_ _|refine blk_drew ?_|refine blk_alloc ?_ _));refine blk_far ?_ NB369_371.out _;(with_reducible repeat (first|refine blk_drewN ?_ _|refine blk_drew ?_|refine blk_alloc ?_ _));refine blk_far ?_ NB369_371.out _;(with_reducible repeat (first|refine blk_drewN ?_ _|refine blk_drew ?_|refine blk_alloc ?_ _));refine blk_far ?_ NB369_371.out _;(with_reducible repeat (first|refine blk_drewN ?_ _|refine blk_drew ?_|refine blk_alloc ?_ _));refine blk_far ?_ NB369_371.out _;(with_reducible repeat (first|refine blk_drewN ?_ _|refine blk_drew ?_|refine blk_alloc ?_ _));exact BK369.out⟩
   have n1_:Aside0 (((((w9.setCell ⟨gb371,0,none⟩ (.int .i64 ((rd_T74 l0_0 a1).f0.f0))).setCell ⟨gb371,1,none⟩ (.int .i64 ((rd_T74 l0_0 a1).f0.f1))).setCell ⟨gb371,2,none⟩ (.int .i64 ((rd_T74 l0_0 a1).f1))).setCell ⟨gb371,3,none⟩ (.slice A370_3 ((rd_T74 l0_0 a1).f2).length c370_3)).heap[gb371]?=some (.cells #[.int .i64 ((rd_T74 l0_0 a1).f0.f0),.int .i64 ((rd_T74 l0_0 a1).f0.f1),.int .i64 ((rd_T74 l0_0 a1).f1),.slice A370_3 ((rd_T74 l0_0 a1).f2).length c370_3] 74 (0,0))):=⟨by (with_reducible repeat (first|refine blk_drewN ?_ _|refine blk_drew ?_|refine blk_alloc ?_ _));refine blk_put (cs:=#[.int .i64 ((rd_T74 l0_0 a1).f0.f0),.int .i64 ((rd_T74 l0_0 a1).f0.f1),.int .i64 ((rd_T74 l0_0 a1).f1),.slice none 0 0]) ?_ 3 _ rfl;(with_reducible repeat (first|refine blk_drewN ?_ _|refine blk_drew ?_|refine blk_alloc ?_ _));refine blk_put (cs:=#[.int .i64 ((rd_T74 l0_0 a1).f0.f0),.int .i64 ((rd_T74 l0_0 a1).f0.f1),.int .i64 0,.slice none 0 0]) ?_ 2 _ rfl;(with_reducible repeat (first|refine blk_drewN ?_ _|refine blk_drew ?_|refine blk_alloc ?_ _));refine blk_put (cs:=#[.int .i64 ((rd_T74 l0_0 a1).f0.f0),.int .i64 0,.int .i64 0,.slice none 0 0]) ?_ 1 _ rfl;(with_reducible repeat (first|refine blk_drewN ?_ _|refine blk_drew ?_|refine blk_alloc ?_ _));refine blk_put (cs:=#[.int .i64 0,.int .i64 0,.int .i64 0,.slice none 0 0]) ?_ 0 _ rfl;(with_reducible repeat (first|refine blk_drewN ?_ _|refine blk_drew ?_|refine blk_alloc ?_ _));exact BK371.out⟩
   have n2_:Aside0 (Below w.heap.size w ((((w9.setCell ⟨gb371,0,none⟩ (.int .i64 ((rd_T74 l0_0 a1).f0.f0))).setCell ⟨gb371,1,none⟩ (.int .i64 ((rd_T74 l0_0 a1).f0.f1))).setCell ⟨gb371,2,none⟩ (.int .i64 ((rd_T74 l0_0 a1).f1))).setCell ⟨gb371,3,none⟩ (.slice A370_3 ((rd_T74 l0_0 a1).f2).length c370_3))):=⟨y1f_⟩
   (try clear BK369);(try clear BK371);(try clear HB)
   generalize ((((w9.setCell ⟨gb371,0,none⟩ (.int .i64 ((rd_T74 l0_0 a1).f0.f0))).setCell ⟨gb371,1,none⟩ (.int .i64 ((rd_T74 l0_0 a1).f0.f1))).setCell ⟨gb371,2,none⟩ (.int .i64 ((rd_T74 l0_0 a1).f1))).setCell ⟨gb371,3,none⟩ (.slice A370_3 ((rd_T74 l0_0 a1).f2).length c370_3))=w12 at n0_ n1_ n2_ ⊢
   have BK369:=n0_;have BK371:=n1_;have HB:=n2_;clear n0_ n1_ n2_;have n0_:=A0_ (blk_drew BK369.out);have n1_:=A0_ (blk_drew BK371.out);have n2_:=A0_ (below_drew1 HB.out);clear BK369;clear BK371;clear HB;have BK369:=n0_;have BK371:=n1_;have HB:=n2_;clear n0_ n1_ n2_
   refine start_ (n:=9) (S:=fun w'=>w'.cell? ⟨gb371,0,none⟩=some (.int .i64 ((rd_T74 l0_0 a1).f0.f0))∧w'.cell? ⟨gb371,1,none⟩=some (.int .i64 ((rd_T74 l0_0 a1).f0.f1))∧w'.cell? ⟨gb371,2,none⟩=some (.int .i64 ((rd_T74 l0_0 a1).f1))∧w'.cell? ⟨gb371,3,none⟩=some (.slice A370_3 ((rd_T74 l0_0 a1).f2).length c370_3)∧w'.cell? ⟨gb369,0,none⟩=some (.slice (some ad370) l0_0.length c0_0)∧w'.cell? ⟨gb369,1,none⟩=some (.int .i64 a0_1)∧w'.cell? ⟨gb369,2,none⟩=some (.int .i64 a0_2)∧w'.cell? ⟨gb369,3,none⟩=some (.int .i64 a0_3)∧w'.cell? ⟨gb369,4,none⟩=some (.int .i64 a0_4)) (ds:=[]) #[false,false,false,false,false,false,false,false,false] (by kernel_rfl) rfl rfl ⟨(blk_cell BK371.out 0).trans rfl,(blk_cell BK371.out 1).trans rfl,(blk_cell BK371.out 2).trans rfl,(blk_cell BK371.out 3).trans rfl,(blk_cell BK369.out 0).trans rfl,(blk_cell BK369.out 1).trans rfl,(blk_cell BK369.out 2).trans rfl,(blk_cell BK369.out 3).trans rfl,(blk_cell BK369.out 4).trans rfl⟩ (fun hHeld=>?_);refine with_tabW ss_mean.tab2 ss_mean.bits2 (fun HT_ HW_=>?_)
   generalize w12.drew=w13 at BK369 BK371 HB hHeld ⊢
   refine pu_ (i:=0) (N:=some 12) ?_;refine pu_ (i:=3) (N:=some 15) ?_;refine ta_ (i:=1) (N:=some 13) ?_;refine ta_ (i:=2) (N:=some 14) ?_;refine ta_ (i:=4) (N:=some 16) ?_
   refine one_ (i:=5) (N:=some 17) #[true,true,true,true,true,true,false,false,false] rfl rfl (one_of HT_.out (by kernel_rfl)) (by decide) (fun K hK=>?_)
   refine goes_ Tryz.func134 (by kernel_rfl) rfl #[.agg #[.slice (some ad370) l0_0.length c0_0,.int .i64 a0_1,.int .i64 a0_2,.int .i64 a0_3,.int .i64 a0_4],.agg #[.int .i64 ((rd_T74 l0_0 a1).f0.f0),.int .i64 ((rd_T74 l0_0 a1).f0.f1)]] (by rfl) rfl rfl y1_ ?_
   with_reducible refine (ss_gone.calls _ _ l0_0 a0_1 a0_2 a0_3 a0_4 ((rd_T74 l0_0 a1).f0.f0) ((rd_T74 l0_0 a1).f0.f1) t372 _ ?side1 ?side2 A5.out).mono ?_
   (case side1=>repeat (first|exact (Kd.C_below HR0_0.out HB.out)|(with_reducible refine Kd.C_alloc ?_ _)|(with_reducible refine Kd.C_drewN ?_ _)|(with_reducible refine Kd.C_drew ?_)))
   (case side2=>exact HC0_0.out)
   rintro e w14 ⟨rfl,hb⟩
   refine ⟨_,rfl,?_⟩
   have n0_:=A0_ (blk_below (g:=gb369) (o:=.cells #[.slice (some ad370) l0_0.length c0_0,.int .i64 a0_1,.int .i64 a0_2,.int .i64 a0_3,.int .i64 a0_4] 112 (0,0)) (bd_ BK369.out) hb);have n1_:=A0_ (blk_below (g:=gb371) (o:=.cells #[.int .i64 ((rd_T74 l0_0 a1).f0.f0),.int .i64 ((rd_T74 l0_0 a1).f0.f1),.int .i64 ((rd_T74 l0_0 a1).f1),.slice A370_3 ((rd_T74 l0_0 a1).f2).length c370_3] 74 (0,0)) (bd_ BK371.out) hb);have n2_:=A0_ (below_step y1f_ hb);clear BK369;clear BK371;clear HB;have BK369:=n0_;have BK371:=n1_;have HB:=n2_;clear n0_ n1_ n2_;(try clear hb);(try clear hb2);(try clear hk);(try clear hi)
   refine hK.out _ _ ⟨(blk_cell BK371.out 0).trans rfl,(blk_cell BK371.out 1).trans rfl,(blk_cell BK371.out 2).trans rfl,(blk_cell BK371.out 3).trans rfl,(blk_cell BK369.out 0).trans rfl,(blk_cell BK369.out 1).trans rfl,(blk_cell BK369.out 2).trans rfl,(blk_cell BK369.out 3).trans rfl,(blk_cell BK369.out 4).trans rfl⟩ (fun hHeld=>?_)
   clear hK K
   refine norm_ (a':=?_) ?_ ?_
   rotate_left
   ·show Act.put _ (some 17) _=_
    simp only [Act.put,List.setIfInBounds_toArray,List.set_cons_zero,List.set_cons_succ,i64_w,i32_w]
    rfl
   refine one_ (i:=6) (N:=some 18) #[true,true,true,true,true,true,true,false,false] rfl rfl (one_of HT_.out (by kernel_rfl)) (by decide) (fun K hK=>?_)
   refine Kd.R_lit_step (Kd.int .i64) _ 3 ?hg (N:=18) ?hd (xs:=([(rd_T74 l0_0 a1).f1,t372]:List Int)) (inner:=[.int .i64 ((rd_T74 l0_0 a1).f1),.int .i64 t372]) (ok:=fun _=>True) (okp:=fun _=>True) ?hr ?hp (fun _ hk=>hk) trivial (Below.refl _ _) (Nat.le_refl _) (by simp) ?_;(case hd=>rfl);(case hg=>rfl);(case hr=>first|(go_simp;done)|(go_simp;rfl));(case hp=>exact (Reps.one (show Kd.M (Kd.int .i64) _ _ _ ((rd_T74 l0_0 a1).f1) [.int .i64 ((rd_T74 l0_0 a1).f1)] from rfl) (Reps.one (show Kd.M (Kd.int .i64) _ _ _ t372 [.int .i64 t372] from rfl) (Reps.none _ _))))
   intro v374 w15 ho16 hb hg_ hnew_
   clear hg_ hnew_
   (first|rw [← Ny373.out] at ho16|(simp only [Int.reduceToNat] at ho16;rw [← Ny373.out] at ho16))
   have n0_:=A0_ (Kd.R_lower ho16 (below_size y1f_));have n1_:=A0_ (blk_below (g:=gb369) (o:=.cells #[.slice (some ad370) l0_0.length c0_0,.int .i64 a0_1,.int .i64 a0_2,.int .i64 a0_3,.int .i64 a0_4] 112 (0,0)) (bd_ BK369.out) hb);have n2_:=A0_ (blk_below (g:=gb371) (o:=.cells #[.int .i64 ((rd_T74 l0_0 a1).f0.f0),.int .i64 ((rd_T74 l0_0 a1).f0.f1),.int .i64 ((rd_T74 l0_0 a1).f1),.slice A370_3 ((rd_T74 l0_0 a1).f2).length c370_3] 74 (0,0)) (bd_ BK371.out) hb);have n3_:=A0_ (below_step y1f_ hb);clear BK369;clear BK371;clear HB;have HO375:=n0_;have BK369:=n1_;have BK371:=n2_;have HB:=n3_;clear n0_ n1_ n2_ n3_;clear hb ho16
   obtain ⟨Ao17,co17,eo17⟩:=Kd.R_slice HO375.out
   (first|subst eo17|(injection eo17 with f1_ f2_ f3_;have f4_:=f1_.symm;have f5_:=f3_.symm;clear f1_ f2_ f3_;subst f4_;subst f5_))
   refine hK.out _ _ ⟨(blk_cell BK371.out 0).trans rfl,(blk_cell BK371.out 1).trans rfl,(blk_cell BK371.out 2).trans rfl,(blk_cell BK371.out 3).trans rfl,(blk_cell BK369.out 0).trans rfl,(blk_cell BK369.out 1).trans rfl,(blk_cell BK369.out 2).trans rfl,(blk_cell BK369.out 3).trans rfl,(blk_cell BK369.out 4).trans rfl⟩ (fun hHeld=>?_)
   clear hK K
   refine norm_ (a':=?_) ?_ ?_
   rotate_left
   ·show Act.put _ (some 18) _=_
    simp only [Act.put,List.setIfInBounds_toArray,List.set_cons_zero,List.set_cons_succ,i64_w,i32_w]
    rfl
   refine one_ (i:=7) (N:=some 19) #[true,true,true,true,true,true,true,true,false] rfl rfl (one_of HT_.out (by kernel_rfl)) (by decide) (fun K hK=>?_)
   refine goes_ Tryz.func131 (by kernel_rfl) rfl #[.slice Ao17 y373.length co17] (by rfl) rfl rfl y1_ ?_
   with_reducible refine (sky_sum.calls k _ _ y373 t376 _ ?side1 ?side2 A6.out).mono ?_
   (case side1=>repeat (first|exact (Kd.R_reads' HO375.out).2.2|(with_reducible refine Kd.C_alloc ?_ _)|(with_reducible refine Kd.C_drewN ?_ _)|(with_reducible refine Kd.C_drew ?_)))
   (case side2=>exact (Kd.R_reads' HO375.out).2.1)
   rintro e w' ⟨rfl,⟨nd,rfl⟩⟩
   refine ⟨_,rfl,?_⟩
   refine hK.out _ _ ⟨(blk_cell BK371.out 0).trans rfl,(blk_cell BK371.out 1).trans rfl,(blk_cell BK371.out 2).trans rfl,(blk_cell BK371.out 3).trans rfl,(blk_cell BK369.out 0).trans rfl,(blk_cell BK369.out 1).trans rfl,(blk_cell BK369.out 2).trans rfl,(blk_cell BK369.out 3).trans rfl,(blk_cell BK369.out 4).trans rfl⟩ (fun hHeld=>?_)
   clear hK K
   refine norm_ (a':=?_) ?_ ?_
   rotate_left
   ·show Act.put _ (some 19) _=_
    simp only [Act.put,List.setIfInBounds_toArray,List.set_cons_zero,List.set_cons_succ,i64_w,i32_w]
    rfl
   refine pu_ (i:=8) (N:=some 4) ?_
   refine done_ (done_of HT_.out (by kernel_rfl)) ?_
   try go_wp2
   go_ret
   exact ⟨y2_,y1f_⟩
  ·rw [if_neg c4] at H;exact absurd H (by simp)
 ·rw [if_neg c3] at H;exact absurd H (by simp)
def ss_way.f (k:Nat) (l0_0:List (S74)) (a0_1:Int) (a0_2:Int) (a0_3:Int) (a0_4:Int) (a1:Int):Option (Int):=if 0≤a1 then (if a1<(l0_0.length:Int) then ((ss_mean.f k l0_0 a0_1 a0_2 a0_3 a0_4 a1).bind fun t379=>((sky_around.f t379).bind fun t380=>((sky_floor.f (wrap64 (t380*(((rd_T74 l0_0 a1).f2).length:Int))) 21600).bind fun bt381=>(if (((rd_T74 l0_0 a1).f2).length:Int)=0 then (none) else (if 0≤(Int.tmod (wrap64 (bt381.1+1)) (((rd_T74 l0_0 a1).f2).length:Int)) then (if (Int.tmod (wrap64 (bt381.1+1)) (((rd_T74 l0_0 a1).f2).length:Int))<(((rd_T74 l0_0 a1).f2).length:Int) then (if 0≤bt381.1 then (if bt381.1<(((rd_T74 l0_0 a1).f2).length:Int) then ((sky_floor.f (wrap64 ((wrap64 ((rd ((rd_T74 l0_0 a1).f2) (Int.tmod (wrap64 (bt381.1+1)) (((rd_T74 l0_0 a1).f2).length:Int))) - (rd ((rd_T74 l0_0 a1).f2) bt381.1)))*bt381.2)) 21600).bind fun bt385=>((sky_sum.f k (([t379,rd ((rd_T74 l0_0 a1).f2) bt381.1,bt385.1]:List Int))).bind fun t391=>(some t391))) else (none)) else (none)) else (none)) else (none)))))) else (none)) else (none)
theorem ss_way.mono:∀ a0 a1 a2 a3 a4 a5 k,LeO (ss_way.f k a0 a1 a2 a3 a4 a5) (ss_way.f (k+1) a0 a1 a2 a3 a4 a5):=by
 intro a0 a1 a2 a3 a4 a5 k
 unfold ss_way.f
 repeat' first
   |(with_reducible exact ss_mean.mono _ _ _ _ _ _ _)
   |(with_reducible exact sky_sum.mono _ _)
   |(with_reducible exact LeO.refl _)
   |(with_reducible exact LeO.none _)
   |(with_reducible refine LeO.ite ?_ ?_)
   |(with_reducible refine LeO.bind ?_ (fun _=>?_))
   |exact ss_mean.mono _ _ _ _ _ _ _
   |exact sky_sum.mono _ _
   |exact LeO.none _
   |refine LeO.ite ?_ ?_
   |refine LeO.bind ?_ (fun _=>?_)
set_option maxHeartbeats 8000000 in
set_option maxRecDepth 100000 in
theorem ss_way.calls (k:Nat) (A0_0:Option Addr) (c0_0:Nat) (l0_0:List (S74)) (a0_1:Int) (a0_2:Int) (a0_3:Int) (a0_4:Int) (a1:Int) (r:Int) (w:World) (hr0_0:Kd.C k74 w A0_0 l0_0.length l0_0) (hc0_0:l0_0.length≤c0_0) (h:ss_way.f k l0_0 a0_1 a0_2 a0_3 a0_4 a1=some r):
  Calls Tryz.prog 81 #[.agg #[.slice A0_0 l0_0.length c0_0,.int .i64 a0_1,.int .i64 a0_2,.int .i64 a0_3,.int .i64 a0_4],.int .i64 a1] w fun e w'=>e=.returned (.int .i64 r)∧Below w.heap.size w w':=by
 have hu112:=Tryz.underlying112
 have HR0_0:=A0_ hr0_0;have HC0_0:=A0_ hc0_0;clear hr0_0 hc0_0
 have HB:=A0_ (Below.refl w.heap.size w)
 have H:(if 0≤a1 then (if a1<(l0_0.length:Int) then ((ss_mean.f k l0_0 a0_1 a0_2 a0_3 a0_4 a1).bind fun t379=>((sky_around.f t379).bind fun t380=>((sky_floor.f (wrap64 (t380*(((rd_T74 l0_0 a1).f2).length:Int))) 21600).bind fun bt381=>(if (((rd_T74 l0_0 a1).f2).length:Int)=0 then (none) else (if 0≤(Int.tmod (wrap64 (bt381.1+1)) (((rd_T74 l0_0 a1).f2).length:Int)) then (if (Int.tmod (wrap64 (bt381.1+1)) (((rd_T74 l0_0 a1).f2).length:Int))<(((rd_T74 l0_0 a1).f2).length:Int) then (if 0≤bt381.1 then (if bt381.1<(((rd_T74 l0_0 a1).f2).length:Int) then ((sky_floor.f (wrap64 ((wrap64 ((rd ((rd_T74 l0_0 a1).f2) (Int.tmod (wrap64 (bt381.1+1)) (((rd_T74 l0_0 a1).f2).length:Int))) - (rd ((rd_T74 l0_0 a1).f2) bt381.1)))*bt381.2)) 21600).bind fun bt385=>((sky_sum.f k (([t379,rd ((rd_T74 l0_0 a1).f2) bt381.1,bt385.1]:List Int))).bind fun t391=>(some t391))) else (none)) else (none)) else (none)) else (none)))))) else (none)) else (none))=some r:=h
 clear h
 by_cases c3:0≤a1
 ·rw [if_pos c3] at H;have c3b0:decide (0≤a1)=true:=decide_eq_true c3;clear c3
  by_cases c4:a1<(l0_0.length:Int)
  ·rw [if_pos c4] at H;have c4b0:decide (a1<(l0_0.length:Int))=true:=decide_eq_true c4;clear c4;replace H:=Option.bind_eq_some_iff.mp H;obtain ⟨t379,A50,H⟩:=H
   replace H:((sky_around.f t379).bind fun t380=>((sky_floor.f (wrap64 (t380*(((rd_T74 l0_0 a1).f2).length:Int))) 21600).bind fun bt381=>(if (((rd_T74 l0_0 a1).f2).length:Int)=0 then (none) else (if 0≤(Int.tmod (wrap64 (bt381.1+1)) (((rd_T74 l0_0 a1).f2).length:Int)) then (if (Int.tmod (wrap64 (bt381.1+1)) (((rd_T74 l0_0 a1).f2).length:Int))<(((rd_T74 l0_0 a1).f2).length:Int) then (if 0≤bt381.1 then (if bt381.1<(((rd_T74 l0_0 a1).f2).length:Int) then ((sky_floor.f (wrap64 ((wrap64 ((rd ((rd_T74 l0_0 a1).f2) (Int.tmod (wrap64 (bt381.1+1)) (((rd_T74 l0_0 a1).f2).length:Int))) - (rd ((rd_T74 l0_0 a1).f2) bt381.1)))*bt381.2)) 21600).bind fun bt385=>((sky_sum.f k (([t379,rd ((rd_T74 l0_0 a1).f2) bt381.1,bt385.1]:List Int))).bind fun t391=>(some t391))) else (none)) else (none)) else (none)) else (none)))))=some r:=H
   have A5:=A0_ A50;clear A50;replace H:=Option.bind_eq_some_iff.mp H;obtain ⟨t380,A60,H⟩:=H
   replace H:((sky_floor.f (wrap64 (t380*(((rd_T74 l0_0 a1).f2).length:Int))) 21600).bind fun bt381=>(if (((rd_T74 l0_0 a1).f2).length:Int)=0 then (none) else (if 0≤(Int.tmod (wrap64 (bt381.1+1)) (((rd_T74 l0_0 a1).f2).length:Int)) then (if (Int.tmod (wrap64 (bt381.1+1)) (((rd_T74 l0_0 a1).f2).length:Int))<(((rd_T74 l0_0 a1).f2).length:Int) then (if 0≤bt381.1 then (if bt381.1<(((rd_T74 l0_0 a1).f2).length:Int) then ((sky_floor.f (wrap64 ((wrap64 ((rd ((rd_T74 l0_0 a1).f2) (Int.tmod (wrap64 (bt381.1+1)) (((rd_T74 l0_0 a1).f2).length:Int))) - (rd ((rd_T74 l0_0 a1).f2) bt381.1)))*bt381.2)) 21600).bind fun bt385=>((sky_sum.f k (([t379,rd ((rd_T74 l0_0 a1).f2) bt381.1,bt385.1]:List Int))).bind fun t391=>(some t391))) else (none)) else (none)) else (none)) else (none))))=some r:=H
   have A6:=A0_ A60;clear A60;replace H:=Option.bind_eq_some_iff.mp H
   obtain ⟨⟨t381,t382⟩,A70,H⟩:=H
   replace H:(if (((rd_T74 l0_0 a1).f2).length:Int)=0 then (none) else (if 0≤(Int.tmod (wrap64 (t381+1)) (((rd_T74 l0_0 a1).f2).length:Int)) then (if (Int.tmod (wrap64 (t381+1)) (((rd_T74 l0_0 a1).f2).length:Int))<(((rd_T74 l0_0 a1).f2).length:Int) then (if 0≤t381 then (if t381<(((rd_T74 l0_0 a1).f2).length:Int) then ((sky_floor.f (wrap64 ((wrap64 ((rd ((rd_T74 l0_0 a1).f2) (Int.tmod (wrap64 (t381+1)) (((rd_T74 l0_0 a1).f2).length:Int))) - (rd ((rd_T74 l0_0 a1).f2) t381)))*t382)) 21600).bind fun bt385=>((sky_sum.f k (([t379,rd ((rd_T74 l0_0 a1).f2) t381,bt385.1]:List Int))).bind fun t391=>(some t391))) else (none)) else (none)) else (none)) else (none)))=some r:=H
   have A7:=A0_ A70;clear A70
   by_cases c8:(((rd_T74 l0_0 a1).f2).length:Int)=0
   ·rw [if_pos c8] at H;exact absurd H (by simp)
   ·rw [if_neg c8] at H
    have c8b0:((((rd_T74 l0_0 a1).f2).length:Int) == 0)=false:=beq_eq_false_iff_ne.mpr c8
    have c8b1:((((rd_T74 l0_0 a1).f2).length:Int) != 0)=true:=bne_iff_ne.mpr c8
    have c8b2:¬ (((rd_T74 l0_0 a1).f2)=[]):=fun h_=>c8 (by rw [h_];rfl)
    obtain ⟨ji9,hji9⟩:∃ j_:Int,(Int.tmod (wrap64 (t381+1)) (((rd_T74 l0_0 a1).f2).length:Int))=j_:=⟨_,rfl⟩
    replace H:(if 0≤(ji9) then (if (ji9)<(((rd_T74 l0_0 a1).f2).length:Int) then (if 0≤t381 then (if t381<(((rd_T74 l0_0 a1).f2).length:Int) then ((sky_floor.f (wrap64 ((wrap64 ((rd ((rd_T74 l0_0 a1).f2) (ji9)) - (rd ((rd_T74 l0_0 a1).f2) t381)))*t382)) 21600).bind fun bt385=>((sky_sum.f k (([t379,rd ((rd_T74 l0_0 a1).f2) t381,bt385.1]:List Int))).bind fun t391=>(some t391))) else (none)) else (none)) else (none)) else (none))=some r:=by first|(rw [hji9] at H;exact H)|(simp only [hji9] at H ⊢;exact H)
    (try rw [hji9] at A5)
    (try rw [hji9] at A6)
    (try rw [hji9] at A7)
    by_cases c10:0≤(ji9)
    ·rw [if_pos c10] at H;have c10b0:decide (0≤(ji9))=true:=decide_eq_true c10;clear c10
     by_cases c11:(ji9)<(((rd_T74 l0_0 a1).f2).length:Int)
     ·rw [if_pos c11] at H;have c11b0:decide ((ji9)<(((rd_T74 l0_0 a1).f2).length:Int))=true:=decide_eq_true c11;clear c11
      by_cases c12:0≤t381
      ·rw [if_pos c12] at H;have c12b0:decide (0≤t381)=true:=decide_eq_true c12;clear c12
       by_cases c13:t381<(((rd_T74 l0_0 a1).f2).length:Int)
       ·rw [if_pos c13] at H;have c13b0:decide (t381<(((rd_T74 l0_0 a1).f2).length:Int))=true:=decide_eq_true c13;clear c13;replace H:=Option.bind_eq_some_iff.mp H
        obtain ⟨⟨t385,t386⟩,A140,H⟩:=H
        replace H:((sky_sum.f k (([t379,rd ((rd_T74 l0_0 a1).f2) t381,t385]:List Int))).bind fun t391=>(some t391))=some r:=H
        have A14:=A0_ A140;clear A140
        obtain ⟨y388,hy388⟩:∃ y_:List Int,y_=(([t379,rd ((rd_T74 l0_0 a1).f2) t381,t385]:List Int)):=⟨_,rfl⟩
        replace H:((sky_sum.f k y388).bind fun t391=>(some t391))=some r:=by first|(rw [hy388];with_reducible exact H)|(have H2_:=(Option.bind_some _ _).symm.trans H;rw [hy388];with_reducible exact H2_)|(have H2_:=(Option.bind_some _ _).symm.trans H;with_reducible exact H2_)|with_reducible exact H|(rw [hy388];exact H)|exact H
        have Ny388:=A0_ hy388;clear hy388;replace H:=Option.bind_eq_some_iff.mp H;obtain ⟨t391,A150,H⟩:=H
        replace H:(some t391)=some r:=H
        have A15:=A0_ A150;clear A150;obtain rfl:=Option.some.inj H
        go_enter Tryz.func81,Tryz.ntmps81
        go_wp2_with (first|((with_reducible refine gate_dst (N:=2) rfl ?_);refine box_event ?hg (N:=2) ?hd (cs:=#[.slice A0_0 l0_0.length c0_0,.int .i64 a0_1,.int .i64 a0_2,.int .i64 a0_3,.int .i64 a0_4]) (t:=112) ?hr ?_;(case hd=>rfl);(case hg=>rfl);(case hr=>first|(go_simp;done)|(go_simp;rfl));intro gb377 hg w16 hbox hb;have n0_:=A0_ (below_step y0_ hb);have n1_:=A0_ (hbox);have n2_:=A0_ ((by rw [hg];exact (below_size y0_):w.heap.size≤gb377));have n3_:=A0_ ((by rw [hg];exact (below_size y0_):w.heap.size≤gb377));clear HB;have HB:=n0_;have BK377:=n1_;have GW377:=n2_;have GE377:=n3_;clear n0_ n1_ n2_ n3_;clear hb hbox hg;obtain ⟨hcz17_0,hcz17_1,hcz17_2,hcz17_3,hcz17_4,hfz17_0,hfz17_1,hfz17_2,hfz17_3,hfz17_4⟩:=bq5_ BK377.out;have p378:0≤(a1:Int):=of_decide_eq_true y5_;have q378:a1<(l0_0.length:Int):=of_decide_eq_true y5_;obtain ⟨ad378,A378_3,c378_3,e378,hx378_0,hx378_1,hx378_2,hx378_3,hl378_3,hi378_3⟩:=at_T74 HR0_0.out a1 p378 q378;cases e378;replace hx378_0:=(HB.out.cell (World.block_lt_of_cell? w _ hx378_0)).trans hx378_0;replace hx378_1:=(HB.out.cell (World.block_lt_of_cell? w _ hx378_1)).trans hx378_1;replace hx378_2:=(HB.out.cell (World.block_lt_of_cell? w _ hx378_2)).trans hx378_2;replace hx378_3:=(HB.out.cell (World.block_lt_of_cell? w _ hx378_3)).trans hx378_3;have HR378_3:=A0_ hi378_3;have HC378_3:=A0_ hl378_3;clear hi378_3 hl378_3;replace p378:=eq_true p378;replace q378:=eq_true q378)|((with_reducible refine gate_callee (f:=94) rfl ?_);refine goesL_ (some 21) rfl rfl Tryz.func94 (by kernel_rfl) rfl #[.agg #[.slice (some ad378) l0_0.length c0_0,.int .i64 a0_1,.int .i64 a0_2,.int .i64 a0_3,.int .i64 a0_4],.int .i64 a1] rfl y1_ ?_;(with_reducible refine (ss_mean.calls k _ _ l0_0 a0_1 a0_2 a0_3 a0_4 a1 t379 _ ?side1 ?side2 A5.out).mono ?_);(case side1=>repeat (first|exact (Kd.C_below HR0_0.out HB.out)|(with_reducible refine Kd.C_alloc ?_ _)|(with_reducible refine Kd.C_drewN ?_ _)|(with_reducible refine Kd.C_drew ?_)));(case side2=>exact HC0_0.out);rintro e w18 ⟨rfl,hb⟩;refine ⟨_,rfl,?_⟩;have n0_:=A0_ (blk_below (g:=gb377) (o:=.cells #[.slice (some ad378) l0_0.length c0_0,.int .i64 a0_1,.int .i64 a0_2,.int .i64 a0_3,.int .i64 a0_4] 112 (0,0)) (bd_ BK377.out) hb);have n1_:=A0_ (below_step y29_ hb);clear BK377;clear HB;have BK377:=n0_;have HB:=n1_;clear n0_ n1_;(try clear hb);(try clear hb2);(try clear hk);(try clear hi))|((with_reducible refine gate_callee (f:=80) rfl ?_);refine goesL_ (some 24) rfl rfl Tryz.func80 (by kernel_rfl) rfl #[.int .i64 t379] rfl y1_ ?_;(with_reducible refine (sky_around.calls t379 t380 _ A6.out).mono ?_);rintro e w' ⟨rfl,⟨nd,rfl⟩⟩;refine ⟨_,rfl,?_⟩)|((with_reducible refine gate_callee (f:=130) rfl ?_);refine goesL_ (some 28) rfl rfl Tryz.func130 (by kernel_rfl) rfl #[.int .i64 (wrap64 (t380*(((rd_T74 l0_0 a1).f2).length:Int))),.int .i64 21600] rfl y1_ ?_;(with_reducible refine (sky_floor.calls (wrap64 (t380*(((rd_T74 l0_0 a1).f2).length:Int))) 21600 t381 t382 _ A7.out).mono ?_);rintro e w' ⟨rfl,⟨nd,rfl⟩⟩;refine ⟨_,rfl,?_⟩;have p383:0≤((ji9):Int):=of_decide_eq_true y5_;have q383:(ji9)<(((rd_T74 l0_0 a1).f2).length:Int):=of_decide_eq_true y5_;obtain ⟨ad383,e383,hx383_0⟩:=Kd.at_int HR378_3.out (ji9) p383 q383;cases e383;replace hx383_0:=(HB.out.cell (World.block_lt_of_cell? w _ hx383_0)).trans hx383_0;replace p383:=eq_true p383;replace q383:=eq_true q383;have p384:0≤(t381:Int):=of_decide_eq_true y5_;have q384:t381<(((rd_T74 l0_0 a1).f2).length:Int):=of_decide_eq_true y5_;obtain ⟨ad384,e384,hx384_0⟩:=Kd.at_int HR378_3.out t381 p384 q384;obtain rfl:ad383=ad384:=(by injection e384);replace hx384_0:=(HB.out.cell (World.block_lt_of_cell? w _ hx384_0)).trans hx384_0;replace p384:=eq_true p384;replace q384:=eq_true q384)|((with_reducible refine gate_callee (f:=130) rfl ?_);refine goesL_ (some 48) rfl rfl Tryz.func130 (by kernel_rfl) rfl #[.int .i64 (wrap64 ((wrap64 ((rd ((rd_T74 l0_0 a1).f2) (ji9)) - (rd ((rd_T74 l0_0 a1).f2) t381)))*t382)),.int .i64 21600] rfl (by (try simp only [List.map_toArray,List.map_cons,List.map_nil]);first|done|(simp only [hji9];rfl)|rfl|(simp only [List.length_drop,List.length_take];rfl)) ?_;(with_reducible refine (sky_floor.calls (wrap64 ((wrap64 ((rd ((rd_T74 l0_0 a1).f2) (ji9)) - (rd ((rd_T74 l0_0 a1).f2) t381)))*t382)) 21600 t385 t386 _ A14.out).mono ?_);rintro e w' ⟨rfl,⟨nd,rfl⟩⟩;refine ⟨_,rfl,?_⟩;have p387:0≤(t381:Int):=of_decide_eq_true y5_;have q387:t381<(((rd_T74 l0_0 a1).f2).length:Int):=of_decide_eq_true y5_;obtain ⟨ad387,e387,hx387_0⟩:=Kd.at_int HR378_3.out t381 p387 q387;obtain rfl:ad383=ad387:=(by injection e387);replace hx387_0:=(HB.out.cell (World.block_lt_of_cell? w _ hx387_0)).trans hx387_0;replace p387:=eq_true p387;replace q387:=eq_true q387)|((with_reducible refine gate_dst (N:=57) rfl ?_);refine Kd.R_lit (Kd.int .i64) _ 3 ?hg (N:=57) ?hd (xs:=([t379,rd ((rd_T74 l0_0 a1).f2) t381,t385]:List Int)) (inner:=[.int .i64 t379,.int .i64 (rd ((rd_T74 l0_0 a1).f2) t381),.int .i64 t385]) (ok:=fun _=>True) (okp:=fun _=>True) ?hr ?hp (fun _ hk=>hk) trivial (Below.refl _ _) (Nat.le_refl _) (by simp) ?_;(case hd=>rfl);(case hg=>rfl);(case hr=>first|(go_simp;done)|(go_simp;rfl));(case hp=>exact (Reps.one (show Kd.M (Kd.int .i64) _ _ _ t379 [.int .i64 t379] from rfl) (Reps.one (show Kd.M (Kd.int .i64) _ _ _ (rd ((rd_T74 l0_0 a1).f2) t381) [.int .i64 (rd ((rd_T74 l0_0 a1).f2) t381)] from rfl) (Reps.one (show Kd.M (Kd.int .i64) _ _ _ t385 [.int .i64 t385] from rfl) (Reps.none _ _)))));intro v389 w19 ho20 hb hg_ hnew_;clear hg_ hnew_;(first|rw [← Ny388.out] at ho20|(simp only [Int.reduceToNat] at ho20;rw [← Ny388.out] at ho20));have n0_:=A0_ (Kd.R_lower ho20 (below_size y29_));have n1_:=A0_ (blk_below (g:=gb377) (o:=.cells #[.slice (some ad378) l0_0.length c0_0,.int .i64 a0_1,.int .i64 a0_2,.int .i64 a0_3,.int .i64 a0_4] 112 (0,0)) (bd_ BK377.out) hb);have n2_:=A0_ (below_step y29_ hb);clear BK377;clear HB;have HO390:=n0_;have BK377:=n1_;have HB:=n2_;clear n0_ n1_ n2_;clear hb ho20;obtain ⟨Ao21,co21,eo21⟩:=Kd.R_slice HO390.out;subst eo21)|((with_reducible refine gate_callee (f:=131) rfl ?_);refine goesL_ (some 58) rfl rfl Tryz.func131 (by kernel_rfl) rfl #[.slice Ao21 y388.length co21] rfl y1_ ?_;(with_reducible refine (sky_sum.calls k _ _ y388 t391 _ ?side1 ?side2 A15.out).mono ?_);(case side1=>repeat (first|exact (Kd.R_reads' HO390.out).2.2|(with_reducible refine Kd.C_alloc ?_ _)|(with_reducible refine Kd.C_drewN ?_ _)|(with_reducible refine Kd.C_drew ?_)));(case side2=>exact (Kd.R_reads' HO390.out).2.1);rintro e w' ⟨rfl,⟨nd,rfl⟩⟩;refine ⟨_,rfl,?_⟩))
        go_ret
        exact ⟨by first|rfl|(simp [errW_none,errW_some] <;> rfl)|(simp only [← hji9];first|rfl|(simp [errW_none,errW_some] <;> rfl))|(simp [*,errW_none,errW_some] <;> rfl),y29_⟩
       ·rw [if_neg c13] at H;exact absurd H (by simp)
      ·rw [if_neg c12] at H;exact absurd H (by simp)
     ·rw [if_neg c11] at H;exact absurd H (by simp)
    ·rw [if_neg c10] at H;exact absurd H (by simp)
  ·rw [if_neg c4] at H;exact absurd H (by simp)
 ·rw [if_neg c3] at H;exact absurd H (by simp)
def sky_Place.j0:Nat→Int→Int→Bool→List (S74)→Int→Int→Int→Option (Int × Int)
 |0,_,_,_,_,_,_,_=>none
 |k+1,x1,x2,x21,x393000,x393001,x393002,x393003=>if x21=true then (some (0,2)) else ((ss_way.f k x393000 x393001 x393002 x393003 x2 x1).bind fun t396=>((sky_around.f t396).bind fun t397=>(some (t397,0))))
def sky_Place.f (k:Nat) (l0_0:List (S74)) (a0_1:Int) (a0_2:Int) (a0_3:Int) (a1:Int) (a2:Int):Option (Int × Int):=(sky_isSky.f k l0_0 a0_1 a0_2 a0_3).bind fun t393=>(if t393=true then ((sky_isBody.f l0_0 a0_1 a0_2 a0_3 a1).bind fun t394=>(if t394=true then ((sky_isDay.f a2).bind fun t395=>(sky_Place.j0 k a1 a2 (!t395) l0_0 a0_1 a0_2 a0_3)) else (sky_Place.j0 k a1 a2 true l0_0 a0_1 a0_2 a0_3))) else (sky_Place.j0 k a1 a2 true l0_0 a0_1 a0_2 a0_3))
set_option maxHeartbeats 8000000 in
set_option maxRecDepth 100000 in
theorem sky_Place.calls (k:Nat) (A0_0:Option Addr) (c0_0:Nat) (l0_0:List (S74)) (a0_1:Int) (a0_2:Int) (a0_3:Int) (a1:Int) (a2:Int) (r1:Int) (r2:Int) (w:World) (hr0_0:Kd.C k74 w A0_0 l0_0.length l0_0) (hc0_0:l0_0.length≤c0_0) (h:sky_Place.f k l0_0 a0_1 a0_2 a0_3 a1 a2=some (r1,r2)):
  Calls Tryz.prog 25 #[.agg #[.slice A0_0 l0_0.length c0_0,.int .i64 a0_1,.int .i64 a0_2,.int .i64 a0_3],.int .i64 a1,.int .i64 a2] w fun e w'=>e=.returned (.tuple #[.int .i64 r1,.int .i64 r2])∧Below w.heap.size w w':=by
 have hu29:=Tryz.underlying29
 have hu112:=Tryz.underlying112
 have HR0_0:=A0_ hr0_0;have HC0_0:=A0_ hc0_0;clear hr0_0 hc0_0
 have HB:=A0_ (Below.refl w.heap.size w)
 have H:((sky_isSky.f k l0_0 a0_1 a0_2 a0_3).bind fun t393=>(if t393=true then ((sky_isBody.f l0_0 a0_1 a0_2 a0_3 a1).bind fun t394=>(if t394=true then ((sky_isDay.f a2).bind fun t395=>(sky_Place.j0 k a1 a2 (!t395) l0_0 a0_1 a0_2 a0_3)) else (sky_Place.j0 k a1 a2 true l0_0 a0_1 a0_2 a0_3))) else (sky_Place.j0 k a1 a2 true l0_0 a0_1 a0_2 a0_3)))=some (r1,r2):=h
 clear h;have HC4:=A0_ H;clear H
 go_enter Tryz.func25,Tryz.ntmps25
 go_upto_region 1 with (first|((with_reducible refine gate_dst (N:=3) rfl ?_);refine box_event ?hg (N:=3) ?hd (cs:=#[.slice A0_0 l0_0.length c0_0,.int .i64 a0_1,.int .i64 a0_2,.int .i64 a0_3]) (t:=29) ?hr ?_;(case hd=>rfl);(case hg=>rfl);(case hr=>first|(go_simp;done)|(go_simp;rfl));intro gb392 hg w5 hbox hb;have n0_:=A0_ (below_step y0_ hb);have n1_:=A0_ (hbox);have n2_:=A0_ ((by rw [hg];exact (below_size y0_):w.heap.size≤gb392));have n3_:=A0_ ((by rw [hg];exact (below_size y0_):w.heap.size≤gb392));clear HB;have HB:=n0_;have BK392:=n1_;have GW392:=n2_;have GE392:=n3_;clear n0_ n1_ n2_ n3_;clear hb hbox hg))
 (try simp only [Act.put,List.setIfInBounds_toArray,List.set_cons_zero,List.set_cons_succ])
 go_cut [21] (fun v21 wc=>∃ (kq:Nat) (x21_3:Bool),v21=.bool x21_3∧Aside0 (sky_Place.j0 kq a1 a2 x21_3 l0_0 a0_1 a0_2 a0_3=some (r1,r2))∧Aside0 (kq≤k)∧Aside0 (wc.heap[gb392]?=some (.cells #[(.slice A0_0 l0_0.length c0_0),.int .i64 a0_1,.int .i64 a0_2,.int .i64 a0_3] 29 (0,0)))∧Aside0 (Below w.heap.size w wc))
 case first=>
  have H:=HC4.out
  clear HC4;replace H:=Option.bind_eq_some_iff.mp H;obtain ⟨t393,A60,H⟩:=H
  replace H:(if t393=true then ((sky_isBody.f l0_0 a0_1 a0_2 a0_3 a1).bind fun t394=>(if t394=true then ((sky_isDay.f a2).bind fun t395=>(sky_Place.j0 k a1 a2 (!t395) l0_0 a0_1 a0_2 a0_3)) else (sky_Place.j0 k a1 a2 true l0_0 a0_1 a0_2 a0_3))) else (sky_Place.j0 k a1 a2 true l0_0 a0_1 a0_2 a0_3))=some (r1,r2):=H
  have A6:=A0_ A60;clear A60
  by_cases c7:t393=true
  ·subst c7
   have H1:((sky_isBody.f l0_0 a0_1 a0_2 a0_3 a1).bind fun t394=>(if t394=true then ((sky_isDay.f a2).bind fun t395=>(sky_Place.j0 k a1 a2 (!t395) l0_0 a0_1 a0_2 a0_3)) else (sky_Place.j0 k a1 a2 true l0_0 a0_1 a0_2 a0_3)))=some (r1,r2):=by rw [if_pos rfl] at H;exact H
   clear H;have H:=H1;clear H1;replace H:=Option.bind_eq_some_iff.mp H;obtain ⟨t394,A80,H⟩:=H
   replace H:(if t394=true then ((sky_isDay.f a2).bind fun t395=>(sky_Place.j0 k a1 a2 (!t395) l0_0 a0_1 a0_2 a0_3)) else (sky_Place.j0 k a1 a2 true l0_0 a0_1 a0_2 a0_3))=some (r1,r2):=H
   have A8:=A0_ A80;clear A80
   by_cases c9:t394=true
   ·subst c9
    have H1:((sky_isDay.f a2).bind fun t395=>(sky_Place.j0 k a1 a2 (!t395) l0_0 a0_1 a0_2 a0_3))=some (r1,r2):=by rw [if_pos rfl] at H;exact H
    clear H;have H:=H1;clear H1;replace H:=Option.bind_eq_some_iff.mp H;obtain ⟨t395,A100,H⟩:=H
    replace H:(sky_Place.j0 k a1 a2 (!t395) l0_0 a0_1 a0_2 a0_3)=some (r1,r2):=H
    have A10:=A0_ A100;clear A100
    have H':=A0_ H
    clear H;obtain ⟨hcz11_0,hcz11_1,hcz11_2,hcz11_3,hfz11_0,hfz11_1,hfz11_2,hfz11_3⟩:=bq4_ BK392.out
    go_wp2_with (first|((with_reducible refine gate_callee (f:=62) rfl ?_);refine goesL_ (some 9) rfl rfl Tryz.func62 (by kernel_rfl) rfl #[.agg #[.slice A0_0 l0_0.length c0_0,.int .i64 a0_1,.int .i64 a0_2,.int .i64 a0_3]] rfl y1_ ?_;(with_reducible refine (sky_isSky.calls k _ _ l0_0 a0_1 a0_2 a0_3 true _ ?side1 ?side2 A6.out).mono ?_);(case side1=>repeat (first|exact (Kd.C_below HR0_0.out HB.out)|(with_reducible refine Kd.C_alloc ?_ _)|(with_reducible refine Kd.C_drewN ?_ _)|(with_reducible refine Kd.C_drew ?_)));(case side2=>exact HC0_0.out);rintro e w12 ⟨rfl,hb⟩;refine ⟨_,rfl,?_⟩;have n0_:=A0_ (blk_below (g:=gb392) (o:=.cells #[.slice A0_0 l0_0.length c0_0,.int .i64 a0_1,.int .i64 a0_2,.int .i64 a0_3] 29 (0,0)) (bd_ BK392.out) hb);have n1_:=A0_ (below_step yr_ hb);clear BK392;clear HB;have BK392:=n0_;have HB:=n1_;clear n0_ n1_;(try clear hb);(try clear hb2);(try clear hk);(try clear hi);obtain ⟨hcz13_0,hcz13_1,hcz13_2,hcz13_3,hfz13_0,hfz13_1,hfz13_2,hfz13_3⟩:=bq4_ BK392.out)|(go_at_call 78;(with_reducible refine (sky_isBody.calls _ _ l0_0 a0_1 a0_2 a0_3 a1 true _ ?side1 ?side2 A8.out).mono ?_);(case side1=>repeat (first|exact (Kd.C_below HR0_0.out HB.out)|(with_reducible refine Kd.C_alloc ?_ _)|(with_reducible refine Kd.C_drewN ?_ _)|(with_reducible refine Kd.C_drew ?_)));(case side2=>exact HC0_0.out);rintro e w14 ⟨rfl,hb⟩;have n0_:=A0_ (blk_below (g:=gb392) (o:=.cells #[.slice A0_0 l0_0.length c0_0,.int .i64 a0_1,.int .i64 a0_2,.int .i64 a0_3] 29 (0,0)) (bd_ BK392.out) hb);have n1_:=A0_ (below_step yr_ hb);clear BK392;clear HB;have BK392:=n0_;have HB:=n1_;clear n0_ n1_;(try clear hb);(try clear hb2);(try clear hk);(try clear hi))|(go_at_call 79;(with_reducible refine (sky_isDay.calls a2 t395 _ A10.out).mono ?_);rintro e w' ⟨rfl,⟨nd,rfl⟩⟩))
    go_meet
    case rel=>exact ⟨_,(!t395),y4_,H',⟨by first|omega|exact Nat.le_refl _⟩,⟨by (with_reducible repeat (first|refine blk_drewN ?_ _|refine blk_drew ?_|refine blk_alloc ?_ _));exact BK392.out⟩,⟨yr_⟩⟩
   ·replace c9:=Bool.eq_false_iff.mpr c9;subst c9
    have H1:(sky_Place.j0 k a1 a2 true l0_0 a0_1 a0_2 a0_3)=some (r1,r2):=by rw [if_neg (show ¬ (false=true) by decide)] at H;exact H
    clear H;have H:=H1;clear H1
    have H':=A0_ H
    clear H;obtain ⟨hcz15_0,hcz15_1,hcz15_2,hcz15_3,hfz15_0,hfz15_1,hfz15_2,hfz15_3⟩:=bq4_ BK392.out
    go_wp2_with (first|((with_reducible refine gate_callee (f:=62) rfl ?_);refine goesL_ (some 9) rfl rfl Tryz.func62 (by kernel_rfl) rfl #[.agg #[.slice A0_0 l0_0.length c0_0,.int .i64 a0_1,.int .i64 a0_2,.int .i64 a0_3]] rfl y1_ ?_;(with_reducible refine (sky_isSky.calls k _ _ l0_0 a0_1 a0_2 a0_3 true _ ?side1 ?side2 A6.out).mono ?_);(case side1=>repeat (first|exact (Kd.C_below HR0_0.out HB.out)|(with_reducible refine Kd.C_alloc ?_ _)|(with_reducible refine Kd.C_drewN ?_ _)|(with_reducible refine Kd.C_drew ?_)));(case side2=>exact HC0_0.out);rintro e w16 ⟨rfl,hb⟩;refine ⟨_,rfl,?_⟩;have n0_:=A0_ (blk_below (g:=gb392) (o:=.cells #[.slice A0_0 l0_0.length c0_0,.int .i64 a0_1,.int .i64 a0_2,.int .i64 a0_3] 29 (0,0)) (bd_ BK392.out) hb);have n1_:=A0_ (below_step yr_ hb);clear BK392;clear HB;have BK392:=n0_;have HB:=n1_;clear n0_ n1_;(try clear hb);(try clear hb2);(try clear hk);(try clear hi);obtain ⟨hcz17_0,hcz17_1,hcz17_2,hcz17_3,hfz17_0,hfz17_1,hfz17_2,hfz17_3⟩:=bq4_ BK392.out)|(go_at_call 78;(with_reducible refine (sky_isBody.calls _ _ l0_0 a0_1 a0_2 a0_3 a1 false _ ?side1 ?side2 A8.out).mono ?_);(case side1=>repeat (first|exact (Kd.C_below HR0_0.out HB.out)|(with_reducible refine Kd.C_alloc ?_ _)|(with_reducible refine Kd.C_drewN ?_ _)|(with_reducible refine Kd.C_drew ?_)));(case side2=>exact HC0_0.out);rintro e w18 ⟨rfl,hb⟩;have n0_:=A0_ (blk_below (g:=gb392) (o:=.cells #[.slice A0_0 l0_0.length c0_0,.int .i64 a0_1,.int .i64 a0_2,.int .i64 a0_3] 29 (0,0)) (bd_ BK392.out) hb);have n1_:=A0_ (below_step yr_ hb);clear BK392;clear HB;have BK392:=n0_;have HB:=n1_;clear n0_ n1_;(try clear hb);(try clear hb2);(try clear hk);(try clear hi)))
    go_meet
    case rel=>exact ⟨_,(true),y4_,H',⟨by first|omega|exact Nat.le_refl _⟩,⟨by (with_reducible repeat (first|refine blk_drewN ?_ _|refine blk_drew ?_|refine blk_alloc ?_ _));exact BK392.out⟩,⟨yr_⟩⟩
  ·replace c7:=Bool.eq_false_iff.mpr c7;subst c7
   have H1:(sky_Place.j0 k a1 a2 true l0_0 a0_1 a0_2 a0_3)=some (r1,r2):=by rw [if_neg (show ¬ (false=true) by decide)] at H;exact H
   clear H;have H:=H1;clear H1
   have H':=A0_ H
   clear H;obtain ⟨hcz19_0,hcz19_1,hcz19_2,hcz19_3,hfz19_0,hfz19_1,hfz19_2,hfz19_3⟩:=bq4_ BK392.out
   go_wp2_with (first|((with_reducible refine gate_callee (f:=62) rfl ?_);refine goesL_ (some 9) rfl rfl Tryz.func62 (by kernel_rfl) rfl #[.agg #[.slice A0_0 l0_0.length c0_0,.int .i64 a0_1,.int .i64 a0_2,.int .i64 a0_3]] rfl y1_ ?_;(with_reducible refine (sky_isSky.calls k _ _ l0_0 a0_1 a0_2 a0_3 false _ ?side1 ?side2 A6.out).mono ?_);(case side1=>repeat (first|exact (Kd.C_below HR0_0.out HB.out)|(with_reducible refine Kd.C_alloc ?_ _)|(with_reducible refine Kd.C_drewN ?_ _)|(with_reducible refine Kd.C_drew ?_)));(case side2=>exact HC0_0.out);rintro e w20 ⟨rfl,hb⟩;refine ⟨_,rfl,?_⟩;have n0_:=A0_ (blk_below (g:=gb392) (o:=.cells #[.slice A0_0 l0_0.length c0_0,.int .i64 a0_1,.int .i64 a0_2,.int .i64 a0_3] 29 (0,0)) (bd_ BK392.out) hb);have n1_:=A0_ (below_step yr_ hb);clear BK392;clear HB;have BK392:=n0_;have HB:=n1_;clear n0_ n1_;(try clear hb);(try clear hb2);(try clear hk);(try clear hi)))
   go_meet
   case rel=>exact ⟨_,(true),y4_,H',⟨by first|omega|exact Nat.le_refl _⟩,⟨by (with_reducible repeat (first|refine blk_drewN ?_ _|refine blk_drew ?_|refine blk_alloc ?_ _));exact BK392.out⟩,⟨yr_⟩⟩
 case rest=>
  clear HC4;(try clear c2);(try clear p2);(try clear c6);(try clear c7);(try clear c9);(try clear hcz11_0);(try clear hcz11_1);(try clear hcz11_2);(try clear hcz11_3);(try clear hcz13_0);(try clear hcz13_1);(try clear hcz13_2);(try clear hcz13_3);(try clear hcz15_0);(try clear hcz15_1);(try clear hcz15_2);(try clear hcz15_3);(try clear hcz17_0);(try clear hcz17_1);(try clear hcz17_2);(try clear hcz17_3);(try clear hcz19_0);(try clear hcz19_1);(try clear hcz19_2);(try clear hcz19_3);(try clear hfz11_0);(try clear hfz11_1);(try clear hfz11_2);(try clear hfz11_3);(try clear hfz13_0);(try clear hfz13_1);(try clear hfz13_2);(try clear hfz13_3);(try clear hfz15_0);(try clear hfz15_1);(try clear hfz15_2);(try clear hfz15_3);(try clear hfz17_0);(try clear hfz17_1);(try clear hfz17_2);(try clear hfz17_3);(try clear hfz19_0);(try clear hfz19_1);(try clear hfz19_2);(try clear hfz19_3)
  obtain ⟨kq,x21_3,rfl,HA,HJ3,BK392,HB⟩:=hcut
  cases kq with
  |zero=>exact absurd HA.out (by simp [sky_Place.j0])
  |succ kj3=>
   have H:=HA.out
   clear HA
   simp only [sky_Place.j0] at H
   by_cases c21:x21_3=true
   ·subst c21
    have H1:(some (0,2))=some (r1,r2):=by rw [if_pos rfl] at H;exact H
    clear H;have H:=H1;clear H1
    simp only [Option.some.injEq,Prod.mk.injEq] at H
    obtain ⟨rfl,rfl⟩:=H;go_wp2
    go_ret2
    exact ⟨y2_,yr_⟩
   ·replace c21:=Bool.eq_false_iff.mpr c21;subst c21
    have H1:((ss_way.f kj3 l0_0 a0_1 a0_2 a0_3 a2 a1).bind fun t396=>((sky_around.f t396).bind fun t397=>(some (t397,0))))=some (r1,r2):=by rw [if_neg (show ¬ (false=true) by decide)] at H;exact H
    clear H;have H:=H1;clear H1;replace H:=Option.bind_eq_some_iff.mp H;obtain ⟨t396,A220,H⟩:=H
    replace H:((sky_around.f t396).bind fun t397=>(some (t397,0)))=some (r1,r2):=H
    have A22:=A0_ A220;clear A220;replace H:=Option.bind_eq_some_iff.mp H;obtain ⟨t397,A230,H⟩:=H
    replace H:(some (t397,0))=some (r1,r2):=H
    have A23:=A0_ A230;clear A230
    simp only [Option.some.injEq,Prod.mk.injEq] at H
    obtain ⟨rfl,rfl⟩:=H;obtain ⟨hcz24_0,hcz24_1,hcz24_2,hcz24_3,hfz24_0,hfz24_1,hfz24_2,hfz24_3⟩:=bq4_ BK392.out
    go_wp2_with (first|((with_reducible refine gate_callee (f:=81) rfl ?_);refine goesL_ (some 26) rfl rfl Tryz.func81 (by kernel_rfl) rfl #[.agg #[.slice A0_0 l0_0.length c0_0,.int .i64 a0_1,.int .i64 a0_2,.int .i64 a0_3,.int .i64 a2],.int .i64 a1] rfl y1_ ?_;(with_reducible refine (ss_way.calls kj3 _ _ l0_0 a0_1 a0_2 a0_3 a2 a1 t396 _ ?side1 ?side2 A22.out).mono ?_);(case side1=>repeat (first|exact (Kd.C_below HR0_0.out HB.out)|(with_reducible refine Kd.C_alloc ?_ _)|(with_reducible refine Kd.C_drewN ?_ _)|(with_reducible refine Kd.C_drew ?_)));(case side2=>exact HC0_0.out);rintro e w25 ⟨rfl,hb⟩;refine ⟨_,rfl,?_⟩;have n0_:=A0_ (blk_below (g:=gb392) (o:=.cells #[.slice A0_0 l0_0.length c0_0,.int .i64 a0_1,.int .i64 a0_2,.int .i64 a0_3] 29 (0,0)) (bd_ BK392.out) hb);have n1_:=A0_ (below_step yr_ hb);clear BK392;clear HB;have BK392:=n0_;have HB:=n1_;clear n0_ n1_;(try clear hb);(try clear hb2);(try clear hk);(try clear hi))|((with_reducible refine gate_callee (f:=80) rfl ?_);refine goesL_ (some 27) rfl rfl Tryz.func80 (by kernel_rfl) rfl #[.int .i64 t396] rfl y1_ ?_;(with_reducible refine (sky_around.calls t396 t397 _ A23.out).mono ?_);rintro e w' ⟨rfl,⟨nd,rfl⟩⟩;refine ⟨_,rfl,?_⟩))
    go_ret2
    exact ⟨y2_,yr_⟩
def sky_areTwo.f (l0_0:List (S74)) (a0_1:Int) (a0_2:Int) (a0_3:Int) (a1:Int) (a2:Int):Option (Bool):=(sky_isBody.f l0_0 a0_1 a0_2 a0_3 a1).bind fun t400=>(if t400=true then ((sky_isBody.f l0_0 a0_1 a0_2 a0_3 a2).bind fun t401=>(if t401=true then (some (a1 != a2)) else (some false))) else (some false))
set_option maxHeartbeats 8000000 in
set_option maxRecDepth 100000 in
theorem sky_areTwo.calls (A0_0:Option Addr) (c0_0:Nat) (l0_0:List (S74)) (a0_1:Int) (a0_2:Int) (a0_3:Int) (a1:Int) (a2:Int) (r:Bool) (w:World) (hr0_0:Kd.C k74 w A0_0 l0_0.length l0_0) (hc0_0:l0_0.length≤c0_0) (h:sky_areTwo.f l0_0 a0_1 a0_2 a0_3 a1 a2=some r):
  Calls Tryz.prog 68 #[.agg #[.slice A0_0 l0_0.length c0_0,.int .i64 a0_1,.int .i64 a0_2,.int .i64 a0_3],.int .i64 a1,.int .i64 a2] w fun e w'=>e=.returned (.bool r)∧Below w.heap.size w w':=by
 have hu29:=Tryz.underlying29
 have HR0_0:=A0_ hr0_0;have HC0_0:=A0_ hc0_0;clear hr0_0 hc0_0
 have HB:=A0_ (Below.refl w.heap.size w)
 have H:((sky_isBody.f l0_0 a0_1 a0_2 a0_3 a1).bind fun t400=>(if t400=true then ((sky_isBody.f l0_0 a0_1 a0_2 a0_3 a2).bind fun t401=>(if t401=true then (some (a1 != a2)) else (some false))) else (some false)))=some r:=h
 clear h;replace H:=Option.bind_eq_some_iff.mp H;obtain ⟨t400,A40,H⟩:=H
 replace H:(if t400=true then ((sky_isBody.f l0_0 a0_1 a0_2 a0_3 a2).bind fun t401=>(if t401=true then (some (a1 != a2)) else (some false))) else (some false))=some r:=H
 have A4:=A0_ A40;clear A40
 by_cases c5:t400=true
 ·subst c5
  have H1:((sky_isBody.f l0_0 a0_1 a0_2 a0_3 a2).bind fun t401=>(if t401=true then (some (a1 != a2)) else (some false)))=some r:=by rw [if_pos rfl] at H;exact H
  clear H;have H:=H1;clear H1;replace H:=Option.bind_eq_some_iff.mp H;obtain ⟨t401,A60,H⟩:=H
  replace H:(if t401=true then (some (a1 != a2)) else (some false))=some r:=H
  have A6:=A0_ A60;clear A60
  by_cases c7:t401=true
  ·subst c7
   have H1:(some (a1 != a2))=some r:=by rw [if_pos rfl] at H;exact H
   clear H;have H:=H1;clear H1;obtain rfl:=Option.some.inj H
   go_enter Tryz.func68,Tryz.ntmps68
   go_wp2_with (first|((with_reducible refine gate_dst (N:=3) rfl ?_);refine box_event ?hg (N:=3) ?hd (cs:=#[.slice A0_0 l0_0.length c0_0,.int .i64 a0_1,.int .i64 a0_2,.int .i64 a0_3]) (t:=29) ?hr ?_;(case hd=>rfl);(case hg=>rfl);(case hr=>first|(go_simp;done)|(go_simp;rfl));intro gb399 hg w8 hbox hb;have n0_:=A0_ (below_step y0_ hb);have n1_:=A0_ (hbox);have n2_:=A0_ ((by rw [hg];exact (below_size y0_):w.heap.size≤gb399));have n3_:=A0_ ((by rw [hg];exact (below_size y0_):w.heap.size≤gb399));clear HB;have HB:=n0_;have BK399:=n1_;have GW399:=n2_;have GE399:=n3_;clear n0_ n1_ n2_ n3_;clear hb hbox hg;obtain ⟨hcz9_0,hcz9_1,hcz9_2,hcz9_3,hfz9_0,hfz9_1,hfz9_2,hfz9_3⟩:=bq4_ BK399.out)|((with_reducible refine gate_callee (f:=78) rfl ?_);refine goesL_ (some 9) rfl rfl Tryz.func78 (by kernel_rfl) rfl #[.agg #[.slice A0_0 l0_0.length c0_0,.int .i64 a0_1,.int .i64 a0_2,.int .i64 a0_3],.int .i64 a1] rfl y1_ ?_;(with_reducible refine (sky_isBody.calls _ _ l0_0 a0_1 a0_2 a0_3 a1 true _ ?side1 ?side2 A4.out).mono ?_);(case side1=>repeat (first|exact (Kd.C_below HR0_0.out HB.out)|(with_reducible refine Kd.C_alloc ?_ _)|(with_reducible refine Kd.C_drewN ?_ _)|(with_reducible refine Kd.C_drew ?_)));(case side2=>exact HC0_0.out);rintro e w10 ⟨rfl,hb⟩;refine ⟨_,rfl,?_⟩;have n0_:=A0_ (blk_below (g:=gb399) (o:=.cells #[.slice A0_0 l0_0.length c0_0,.int .i64 a0_1,.int .i64 a0_2,.int .i64 a0_3] 29 (0,0)) (bd_ BK399.out) hb);have n1_:=A0_ (below_step y19_ hb);clear BK399;clear HB;have BK399:=n0_;have HB:=n1_;clear n0_ n1_;(try clear hb);(try clear hb2);(try clear hk);(try clear hi);obtain ⟨hcz11_0,hcz11_1,hcz11_2,hcz11_3,hfz11_0,hfz11_1,hfz11_2,hfz11_3⟩:=bq4_ BK399.out)|(go_at_call 78;(with_reducible refine (sky_isBody.calls _ _ l0_0 a0_1 a0_2 a0_3 a2 true _ ?side1 ?side2 A6.out).mono ?_);(case side1=>repeat (first|exact (Kd.C_below HR0_0.out HB.out)|(with_reducible refine Kd.C_alloc ?_ _)|(with_reducible refine Kd.C_drewN ?_ _)|(with_reducible refine Kd.C_drew ?_)));(case side2=>exact HC0_0.out);rintro e w12 ⟨rfl,hb⟩;have n0_:=A0_ (blk_below (g:=gb399) (o:=.cells #[.slice A0_0 l0_0.length c0_0,.int .i64 a0_1,.int .i64 a0_2,.int .i64 a0_3] 29 (0,0)) (bd_ BK399.out) hb);have n1_:=A0_ (below_step y19_ hb);clear BK399;clear HB;have BK399:=n0_;have HB:=n1_;clear n0_ n1_;(try clear hb);(try clear hb2);(try clear hk);(try clear hi)))
   go_ret
   exact ⟨y2_,y19_⟩
  ·replace c7:=Bool.eq_false_iff.mpr c7;subst c7
   have H1:(some false)=some r:=by rw [if_neg (show ¬ (false=true) by decide)] at H;exact H
   clear H;have H:=H1;clear H1;obtain rfl:=Option.some.inj H
   go_enter Tryz.func68,Tryz.ntmps68
   go_wp2_with (first|((with_reducible refine gate_dst (N:=3) rfl ?_);refine box_event ?hg (N:=3) ?hd (cs:=#[.slice A0_0 l0_0.length c0_0,.int .i64 a0_1,.int .i64 a0_2,.int .i64 a0_3]) (t:=29) ?hr ?_;(case hd=>rfl);(case hg=>rfl);(case hr=>first|(go_simp;done)|(go_simp;rfl));intro gb399 hg w13 hbox hb;have n0_:=A0_ (below_step y0_ hb);have n1_:=A0_ (hbox);have n2_:=A0_ ((by rw [hg];exact (below_size y0_):w.heap.size≤gb399));have n3_:=A0_ ((by rw [hg];exact (below_size y0_):w.heap.size≤gb399));clear HB;have HB:=n0_;have BK399:=n1_;have GW399:=n2_;have GE399:=n3_;clear n0_ n1_ n2_ n3_;clear hb hbox hg;obtain ⟨hcz14_0,hcz14_1,hcz14_2,hcz14_3,hfz14_0,hfz14_1,hfz14_2,hfz14_3⟩:=bq4_ BK399.out)|((with_reducible refine gate_callee (f:=78) rfl ?_);refine goesL_ (some 9) rfl rfl Tryz.func78 (by kernel_rfl) rfl #[.agg #[.slice A0_0 l0_0.length c0_0,.int .i64 a0_1,.int .i64 a0_2,.int .i64 a0_3],.int .i64 a1] rfl y1_ ?_;(with_reducible refine (sky_isBody.calls _ _ l0_0 a0_1 a0_2 a0_3 a1 true _ ?side1 ?side2 A4.out).mono ?_);(case side1=>repeat (first|exact (Kd.C_below HR0_0.out HB.out)|(with_reducible refine Kd.C_alloc ?_ _)|(with_reducible refine Kd.C_drewN ?_ _)|(with_reducible refine Kd.C_drew ?_)));(case side2=>exact HC0_0.out);rintro e w15 ⟨rfl,hb⟩;refine ⟨_,rfl,?_⟩;have n0_:=A0_ (blk_below (g:=gb399) (o:=.cells #[.slice A0_0 l0_0.length c0_0,.int .i64 a0_1,.int .i64 a0_2,.int .i64 a0_3] 29 (0,0)) (bd_ BK399.out) hb);have n1_:=A0_ (below_step y19_ hb);clear BK399;clear HB;have BK399:=n0_;have HB:=n1_;clear n0_ n1_;(try clear hb);(try clear hb2);(try clear hk);(try clear hi);obtain ⟨hcz16_0,hcz16_1,hcz16_2,hcz16_3,hfz16_0,hfz16_1,hfz16_2,hfz16_3⟩:=bq4_ BK399.out)|(go_at_call 78;(with_reducible refine (sky_isBody.calls _ _ l0_0 a0_1 a0_2 a0_3 a2 false _ ?side1 ?side2 A6.out).mono ?_);(case side1=>repeat (first|exact (Kd.C_below HR0_0.out HB.out)|(with_reducible refine Kd.C_alloc ?_ _)|(with_reducible refine Kd.C_drewN ?_ _)|(with_reducible refine Kd.C_drew ?_)));(case side2=>exact HC0_0.out);rintro e w17 ⟨rfl,hb⟩;have n0_:=A0_ (blk_below (g:=gb399) (o:=.cells #[.slice A0_0 l0_0.length c0_0,.int .i64 a0_1,.int .i64 a0_2,.int .i64 a0_3] 29 (0,0)) (bd_ BK399.out) hb);have n1_:=A0_ (below_step y19_ hb);clear BK399;clear HB;have BK399:=n0_;have HB:=n1_;clear n0_ n1_;(try clear hb);(try clear hb2);(try clear hk);(try clear hi)))
   go_ret
   exact ⟨y2_,y19_⟩
 ·replace c5:=Bool.eq_false_iff.mpr c5;subst c5
  have H1:(some false)=some r:=by rw [if_neg (show ¬ (false=true) by decide)] at H;exact H
  clear H;have H:=H1;clear H1;obtain rfl:=Option.some.inj H
  go_enter Tryz.func68,Tryz.ntmps68
  go_wp2_with (first|((with_reducible refine gate_dst (N:=3) rfl ?_);refine box_event ?hg (N:=3) ?hd (cs:=#[.slice A0_0 l0_0.length c0_0,.int .i64 a0_1,.int .i64 a0_2,.int .i64 a0_3]) (t:=29) ?hr ?_;(case hd=>rfl);(case hg=>rfl);(case hr=>first|(go_simp;done)|(go_simp;rfl));intro gb399 hg w18 hbox hb;have n0_:=A0_ (below_step y0_ hb);have n1_:=A0_ (hbox);have n2_:=A0_ ((by rw [hg];exact (below_size y0_):w.heap.size≤gb399));have n3_:=A0_ ((by rw [hg];exact (below_size y0_):w.heap.size≤gb399));clear HB;have HB:=n0_;have BK399:=n1_;have GW399:=n2_;have GE399:=n3_;clear n0_ n1_ n2_ n3_;clear hb hbox hg;obtain ⟨hcz19_0,hcz19_1,hcz19_2,hcz19_3,hfz19_0,hfz19_1,hfz19_2,hfz19_3⟩:=bq4_ BK399.out)|((with_reducible refine gate_callee (f:=78) rfl ?_);refine goesL_ (some 9) rfl rfl Tryz.func78 (by kernel_rfl) rfl #[.agg #[.slice A0_0 l0_0.length c0_0,.int .i64 a0_1,.int .i64 a0_2,.int .i64 a0_3],.int .i64 a1] rfl y1_ ?_;(with_reducible refine (sky_isBody.calls _ _ l0_0 a0_1 a0_2 a0_3 a1 false _ ?side1 ?side2 A4.out).mono ?_);(case side1=>repeat (first|exact (Kd.C_below HR0_0.out HB.out)|(with_reducible refine Kd.C_alloc ?_ _)|(with_reducible refine Kd.C_drewN ?_ _)|(with_reducible refine Kd.C_drew ?_)));(case side2=>exact HC0_0.out);rintro e w20 ⟨rfl,hb⟩;refine ⟨_,rfl,?_⟩;have n0_:=A0_ (blk_below (g:=gb399) (o:=.cells #[.slice A0_0 l0_0.length c0_0,.int .i64 a0_1,.int .i64 a0_2,.int .i64 a0_3] 29 (0,0)) (bd_ BK399.out) hb);have n1_:=A0_ (below_step y19_ hb);clear BK399;clear HB;have BK399:=n0_;have HB:=n1_;clear n0_ n1_;(try clear hb);(try clear hb2);(try clear hk);(try clear hi)))
  go_ret
  exact ⟨y2_,y19_⟩
def ss_ahead.f (k:Nat) (l0_0:List (S74)) (a0_1:Int) (a0_2:Int) (a0_3:Int) (a0_4:Int) (a1:Int) (a2:Int):Option (Int):=(ss_way.f k l0_0 a0_1 a0_2 a0_3 a0_4 a1).bind fun t403=>((ss_way.f k l0_0 a0_1 a0_2 a0_3 a0_4 a2).bind fun t404=>(some (wrap64 (t403 - t404))))
theorem ss_ahead.mono:∀ a0 a1 a2 a3 a4 a5 a6 k,LeO (ss_ahead.f k a0 a1 a2 a3 a4 a5 a6) (ss_ahead.f (k+1) a0 a1 a2 a3 a4 a5 a6):=by
 intro a0 a1 a2 a3 a4 a5 a6 k
 unfold ss_ahead.f
 repeat' first
   |(with_reducible exact ss_way.mono _ _ _ _ _ _ _)
   |(with_reducible exact LeO.refl _)
   |(with_reducible exact LeO.none _)
   |(with_reducible refine LeO.ite ?_ ?_)
   |(with_reducible refine LeO.bind ?_ (fun _=>?_))
   |exact ss_way.mono _ _ _ _ _ _ _
   |exact LeO.none _
   |refine LeO.ite ?_ ?_
   |refine LeO.bind ?_ (fun _=>?_)
def ss_ahead.T1:Bool × List (List Nat × List Nat):=(true,[([],[]),([],[]),([0,1],[0,1]),([],[]),([],[]),([3,4,2],[3,4]),([2,5],[2,5]),([6,5,0,1,2,3,4,5,6],[6])])
def ss_ahead.B1:List Nat:=[0,0,3,0,0,31,63,127]
theorem ss_ahead.tab1:rtab .any (opsOf Tryz.f73 1)=ss_ahead.T1:=by kernel_rfl
theorem ss_ahead.bits1:waitsOk ss_ahead.T1.2 ss_ahead.B1=true:=by kernel_rfl
set_option maxHeartbeats 8000000 in
set_option maxRecDepth 100000 in
theorem ss_ahead.calls (k:Nat) (A0_0:Option Addr) (c0_0:Nat) (l0_0:List (S74)) (a0_1:Int) (a0_2:Int) (a0_3:Int) (a0_4:Int) (a1:Int) (a2:Int) (r:Int) (w:World) (hr0_0:Kd.C k74 w A0_0 l0_0.length l0_0) (hc0_0:l0_0.length≤c0_0) (h:ss_ahead.f k l0_0 a0_1 a0_2 a0_3 a0_4 a1 a2=some r):
  Calls Tryz.prog 73 #[.agg #[.slice A0_0 l0_0.length c0_0,.int .i64 a0_1,.int .i64 a0_2,.int .i64 a0_3,.int .i64 a0_4],.int .i64 a1,.int .i64 a2] w fun e w'=>e=.returned (.int .i64 r)∧Below w.heap.size w w':=by
 have hu112:=Tryz.underlying112
 have HR0_0:=A0_ hr0_0;have HC0_0:=A0_ hc0_0;clear hr0_0 hc0_0
 have HB:=A0_ (Below.refl w.heap.size w)
 have H:((ss_way.f k l0_0 a0_1 a0_2 a0_3 a0_4 a1).bind fun t403=>((ss_way.f k l0_0 a0_1 a0_2 a0_3 a0_4 a2).bind fun t404=>(some (wrap64 (t403 - t404)))))=some r:=h
 clear h;replace H:=Option.bind_eq_some_iff.mp H;obtain ⟨t403,A40,H⟩:=H
 replace H:((ss_way.f k l0_0 a0_1 a0_2 a0_3 a0_4 a2).bind fun t404=>(some (wrap64 (t403 - t404))))=some r:=H
 have A4:=A0_ A40;clear A40;replace H:=Option.bind_eq_some_iff.mp H;obtain ⟨t404,A50,H⟩:=H
 replace H:(some (wrap64 (t403 - t404)))=some r:=H
 have A5:=A0_ A50;clear A50;obtain rfl:=Option.some.inj H
 go_enter Tryz.func73,Tryz.ntmps73
 try go_wp2_with (first|((with_reducible refine gate_dst (N:=3) rfl ?_);refine box_event ?hg (N:=3) ?hd (cs:=#[.slice A0_0 l0_0.length c0_0,.int .i64 a0_1,.int .i64 a0_2,.int .i64 a0_3,.int .i64 a0_4]) (t:=112) ?hr ?_;(case hd=>rfl);(case hg=>rfl);(case hr=>first|(go_simp;done)|(go_simp;rfl));intro gb402 hg w6 hbox hb;have n0_:=A0_ (below_step y0_ hb);have n1_:=A0_ (hbox);have n2_:=A0_ ((by rw [hg];exact (below_size y0_):w.heap.size≤gb402));have n3_:=A0_ ((by rw [hg];exact (below_size y0_):w.heap.size≤gb402));clear HB;have HB:=n0_;have BK402:=n1_;have GW402:=n2_;have GE402:=n3_;clear n0_ n1_ n2_ n3_;clear hb hbox hg))
 have n0_:=A0_ (blk_drew BK402.out);have n1_:=A0_ (below_drew1 HB.out);clear BK402;clear HB;have BK402:=n0_;have HB:=n1_;clear n0_ n1_
 refine start_ (n:=8) (S:=fun w'=>w'.cell? ⟨gb402,0,none⟩=some (.slice A0_0 l0_0.length c0_0)∧w'.cell? ⟨gb402,1,none⟩=some (.int .i64 a0_1)∧w'.cell? ⟨gb402,2,none⟩=some (.int .i64 a0_2)∧w'.cell? ⟨gb402,3,none⟩=some (.int .i64 a0_3)∧w'.cell? ⟨gb402,4,none⟩=some (.int .i64 a0_4)) (ds:=[]) #[false,false,false,false,false,false,false,false] (by kernel_rfl) rfl rfl ⟨(blk_cell BK402.out 0).trans rfl,(blk_cell BK402.out 1).trans rfl,(blk_cell BK402.out 2).trans rfl,(blk_cell BK402.out 3).trans rfl,(blk_cell BK402.out 4).trans rfl⟩ (fun hHeld=>?_);refine with_tabW ss_ahead.tab1 ss_ahead.bits1 (fun HT_ HW_=>?_)
 generalize w6.drew=w7 at BK402 HB hHeld ⊢
 refine pu_ (i:=1) (N:=some 8) ?_;refine pu_ (i:=4) (N:=some 11) ?_;refine ta_ (i:=0) (N:=some 7) ?_;refine ta_ (i:=3) (N:=some 10) ?_
 refine one_ (i:=2) (N:=some 9) #[true,true,true,true,true,false,false,false] rfl rfl (one_of HT_.out (by kernel_rfl)) (by decide) (fun K hK=>?_)
 refine goes_ Tryz.func81 (by kernel_rfl) rfl #[.agg #[.slice A0_0 l0_0.length c0_0,.int .i64 a0_1,.int .i64 a0_2,.int .i64 a0_3,.int .i64 a0_4],.int .i64 a1] (by rfl) rfl rfl y1_ ?_
 with_reducible refine (ss_way.calls k _ _ l0_0 a0_1 a0_2 a0_3 a0_4 a1 t403 _ ?side1 ?side2 A4.out).mono ?_
 (case side1=>repeat (first|exact (Kd.C_below HR0_0.out HB.out)|(with_reducible refine Kd.C_alloc ?_ _)|(with_reducible refine Kd.C_drewN ?_ _)|(with_reducible refine Kd.C_drew ?_)))
 (case side2=>exact HC0_0.out)
 rintro e w8 ⟨rfl,hb⟩
 refine ⟨_,rfl,?_⟩
 have n0_:=A0_ (blk_below (g:=gb402) (o:=.cells #[.slice A0_0 l0_0.length c0_0,.int .i64 a0_1,.int .i64 a0_2,.int .i64 a0_3,.int .i64 a0_4] 112 (0,0)) (bd_ BK402.out) hb);have n1_:=A0_ (below_step y2u_ hb);clear BK402;clear HB;have BK402:=n0_;have HB:=n1_;clear n0_ n1_;(try clear hb);(try clear hb2);(try clear hk);(try clear hi)
 refine hK.out _ _ ⟨(blk_cell BK402.out 0).trans rfl,(blk_cell BK402.out 1).trans rfl,(blk_cell BK402.out 2).trans rfl,(blk_cell BK402.out 3).trans rfl,(blk_cell BK402.out 4).trans rfl⟩ (fun hHeld=>?_)
 clear hK K
 refine norm_ (a':=?_) ?_ ?_
 rotate_left
 ·show Act.put _ (some 9) _=_
  simp only [Act.put,List.setIfInBounds_toArray,List.set_cons_zero,List.set_cons_succ,i64_w,i32_w]
  rfl
 refine one_ (i:=5) (N:=some 12) #[true,true,true,true,true,true,false,false] rfl rfl (one_of HT_.out (by kernel_rfl)) (by decide) (fun K hK=>?_)
 refine goes_ Tryz.func81 (by kernel_rfl) rfl #[.agg #[.slice A0_0 l0_0.length c0_0,.int .i64 a0_1,.int .i64 a0_2,.int .i64 a0_3,.int .i64 a0_4],.int .i64 a2] (by rfl) rfl rfl y1_ ?_
 with_reducible refine (ss_way.calls k _ _ l0_0 a0_1 a0_2 a0_3 a0_4 a2 t404 _ ?side1 ?side2 A5.out).mono ?_
 (case side1=>repeat (first|exact (Kd.C_below HR0_0.out HB.out)|(with_reducible refine Kd.C_alloc ?_ _)|(with_reducible refine Kd.C_drewN ?_ _)|(with_reducible refine Kd.C_drew ?_)))
 (case side2=>exact HC0_0.out)
 rintro e w9 ⟨rfl,hb⟩
 refine ⟨_,rfl,?_⟩
 have n0_:=A0_ (blk_below (g:=gb402) (o:=.cells #[.slice A0_0 l0_0.length c0_0,.int .i64 a0_1,.int .i64 a0_2,.int .i64 a0_3,.int .i64 a0_4] 112 (0,0)) (bd_ BK402.out) hb);have n1_:=A0_ (below_step y2u_ hb);clear BK402;clear HB;have BK402:=n0_;have HB:=n1_;clear n0_ n1_;(try clear hb);(try clear hb2);(try clear hk);(try clear hi)
 refine hK.out _ _ ⟨(blk_cell BK402.out 0).trans rfl,(blk_cell BK402.out 1).trans rfl,(blk_cell BK402.out 2).trans rfl,(blk_cell BK402.out 3).trans rfl,(blk_cell BK402.out 4).trans rfl⟩ (fun hHeld=>?_)
 clear hK K
 refine norm_ (a':=?_) ?_ ?_
 rotate_left
 ·show Act.put _ (some 12) _=_
  simp only [Act.put,List.setIfInBounds_toArray,List.set_cons_zero,List.set_cons_succ,i64_w,i32_w]
  rfl
 refine pu_ (i:=6) (N:=some 13) ?_;refine pu_ (i:=7) (N:=some 6) ?_
 refine done_ (done_of HT_.out (by kernel_rfl)) ?_
 try go_wp2
 go_ret
 exact ⟨y2_,y2u_⟩
end Go.Proofs.YtjahbgldccjbfaaGreatDoor.PSky
end
section
namespace Go.Proofs.YtjahbgldccjbfaaGreatDoor.PSky
open Go.RowKit Go.Proofs.YtjahbgldccjbfaaGreatDoorW.PrintWords Go.Proofs.YtjahbgldccjbfaaGreatDoorW.PrintLast Go.Proofs.YtjahbgldccjbfaaGreatDoorW.PrintMore
attribute [local go_sem] max2_int min2_int max_two min_two max_three min_three max_four min_four
set_option linter.unusedVariables false
set_option linter.unusedSimpArgs false
def sky_Between.j0:Nat→Int→Int→Int→Bool→List (S74)→Int→Int→Int→Option (Int × Int)
 |0,_,_,_,_,_,_,_,_=>none
 |k+1,x1,x2,x3,x24,x406000,x406001,x406002,x406003=>if x24=true then (some (0,2)) else ((ss_ahead.f k x406000 x406001 x406002 x406003 x3 x1 x2).bind fun t409=>((sky_around.f t409).bind fun t410=>(some (t410,0))))
def sky_Between.f (k:Nat) (l0_0:List (S74)) (a0_1:Int) (a0_2:Int) (a0_3:Int) (a1:Int) (a2:Int) (a3:Int):Option (Int × Int):=(sky_isSky.f k l0_0 a0_1 a0_2 a0_3).bind fun t406=>(if t406=true then ((sky_areTwo.f l0_0 a0_1 a0_2 a0_3 a1 a2).bind fun t407=>(if t407=true then ((sky_isDay.f a3).bind fun t408=>(sky_Between.j0 k a1 a2 a3 (!t408) l0_0 a0_1 a0_2 a0_3)) else (sky_Between.j0 k a1 a2 a3 true l0_0 a0_1 a0_2 a0_3))) else (sky_Between.j0 k a1 a2 a3 true l0_0 a0_1 a0_2 a0_3))
set_option maxHeartbeats 8000000 in
set_option maxRecDepth 100000 in
theorem sky_Between.calls (k:Nat) (A0_0:Option Addr) (c0_0:Nat) (l0_0:List (S74)) (a0_1:Int) (a0_2:Int) (a0_3:Int) (a1:Int) (a2:Int) (a3:Int) (r1:Int) (r2:Int) (w:World) (hr0_0:Kd.C k74 w A0_0 l0_0.length l0_0) (hc0_0:l0_0.length≤c0_0) (h:sky_Between.f k l0_0 a0_1 a0_2 a0_3 a1 a2 a3=some (r1,r2)):
  Calls Tryz.prog 43 #[.agg #[.slice A0_0 l0_0.length c0_0,.int .i64 a0_1,.int .i64 a0_2,.int .i64 a0_3],.int .i64 a1,.int .i64 a2,.int .i64 a3] w fun e w'=>e=.returned (.tuple #[.int .i64 r1,.int .i64 r2])∧Below w.heap.size w w':=by
 have hu29:=Tryz.underlying29
 have hu112:=Tryz.underlying112
 have HR0_0:=A0_ hr0_0;have HC0_0:=A0_ hc0_0;clear hr0_0 hc0_0
 have HB:=A0_ (Below.refl w.heap.size w)
 have H:((sky_isSky.f k l0_0 a0_1 a0_2 a0_3).bind fun t406=>(if t406=true then ((sky_areTwo.f l0_0 a0_1 a0_2 a0_3 a1 a2).bind fun t407=>(if t407=true then ((sky_isDay.f a3).bind fun t408=>(sky_Between.j0 k a1 a2 a3 (!t408) l0_0 a0_1 a0_2 a0_3)) else (sky_Between.j0 k a1 a2 a3 true l0_0 a0_1 a0_2 a0_3))) else (sky_Between.j0 k a1 a2 a3 true l0_0 a0_1 a0_2 a0_3)))=some (r1,r2):=h
 clear h;have HC5:=A0_ H;clear H
 go_enter Tryz.func43,Tryz.ntmps43
 go_upto_region 1 with (first|((with_reducible refine gate_dst (N:=4) rfl ?_);refine box_event ?hg (N:=4) ?hd (cs:=#[.slice A0_0 l0_0.length c0_0,.int .i64 a0_1,.int .i64 a0_2,.int .i64 a0_3]) (t:=29) ?hr ?_;(case hd=>rfl);(case hg=>rfl);(case hr=>first|(go_simp;done)|(go_simp;rfl));intro gb405 hg w6 hbox hb;have n0_:=A0_ (below_step y0_ hb);have n1_:=A0_ (hbox);have n2_:=A0_ ((by rw [hg];exact (below_size y0_):w.heap.size≤gb405));have n3_:=A0_ ((by rw [hg];exact (below_size y0_):w.heap.size≤gb405));clear HB;have HB:=n0_;have BK405:=n1_;have GW405:=n2_;have GE405:=n3_;clear n0_ n1_ n2_ n3_;clear hb hbox hg))
 (try simp only [Act.put,List.setIfInBounds_toArray,List.set_cons_zero,List.set_cons_succ])
 go_cut [24] (fun v24 wc=>∃ (kq:Nat) (x24_4:Bool),v24=.bool x24_4∧Aside0 (sky_Between.j0 kq a1 a2 a3 x24_4 l0_0 a0_1 a0_2 a0_3=some (r1,r2))∧Aside0 (kq≤k)∧Aside0 (wc.heap[gb405]?=some (.cells #[(.slice A0_0 l0_0.length c0_0),.int .i64 a0_1,.int .i64 a0_2,.int .i64 a0_3] 29 (0,0)))∧Aside0 (Below w.heap.size w wc))
 case first=>
  have H:=HC5.out
  clear HC5;replace H:=Option.bind_eq_some_iff.mp H;obtain ⟨t406,A70,H⟩:=H
  replace H:(if t406=true then ((sky_areTwo.f l0_0 a0_1 a0_2 a0_3 a1 a2).bind fun t407=>(if t407=true then ((sky_isDay.f a3).bind fun t408=>(sky_Between.j0 k a1 a2 a3 (!t408) l0_0 a0_1 a0_2 a0_3)) else (sky_Between.j0 k a1 a2 a3 true l0_0 a0_1 a0_2 a0_3))) else (sky_Between.j0 k a1 a2 a3 true l0_0 a0_1 a0_2 a0_3))=some (r1,r2):=H
  have A7:=A0_ A70;clear A70
  by_cases c8:t406=true
  ·subst c8
   have H1:((sky_areTwo.f l0_0 a0_1 a0_2 a0_3 a1 a2).bind fun t407=>(if t407=true then ((sky_isDay.f a3).bind fun t408=>(sky_Between.j0 k a1 a2 a3 (!t408) l0_0 a0_1 a0_2 a0_3)) else (sky_Between.j0 k a1 a2 a3 true l0_0 a0_1 a0_2 a0_3)))=some (r1,r2):=by rw [if_pos rfl] at H;exact H
   clear H;have H:=H1;clear H1;replace H:=Option.bind_eq_some_iff.mp H;obtain ⟨t407,A90,H⟩:=H
   replace H:(if t407=true then ((sky_isDay.f a3).bind fun t408=>(sky_Between.j0 k a1 a2 a3 (!t408) l0_0 a0_1 a0_2 a0_3)) else (sky_Between.j0 k a1 a2 a3 true l0_0 a0_1 a0_2 a0_3))=some (r1,r2):=H
   have A9:=A0_ A90;clear A90
   by_cases c10:t407=true
   ·subst c10
    have H1:((sky_isDay.f a3).bind fun t408=>(sky_Between.j0 k a1 a2 a3 (!t408) l0_0 a0_1 a0_2 a0_3))=some (r1,r2):=by rw [if_pos rfl] at H;exact H
    clear H;have H:=H1;clear H1;replace H:=Option.bind_eq_some_iff.mp H;obtain ⟨t408,A110,H⟩:=H
    replace H:(sky_Between.j0 k a1 a2 a3 (!t408) l0_0 a0_1 a0_2 a0_3)=some (r1,r2):=H
    have A11:=A0_ A110;clear A110
    have H':=A0_ H
    clear H;obtain ⟨hcz12_0,hcz12_1,hcz12_2,hcz12_3,hfz12_0,hfz12_1,hfz12_2,hfz12_3⟩:=bq4_ BK405.out
    go_wp2_with (first|((with_reducible refine gate_callee (f:=62) rfl ?_);refine goesL_ (some 11) rfl rfl Tryz.func62 (by kernel_rfl) rfl #[.agg #[.slice A0_0 l0_0.length c0_0,.int .i64 a0_1,.int .i64 a0_2,.int .i64 a0_3]] rfl y1_ ?_;(with_reducible refine (sky_isSky.calls k _ _ l0_0 a0_1 a0_2 a0_3 true _ ?side1 ?side2 A7.out).mono ?_);(case side1=>repeat (first|exact (Kd.C_below HR0_0.out HB.out)|(with_reducible refine Kd.C_alloc ?_ _)|(with_reducible refine Kd.C_drewN ?_ _)|(with_reducible refine Kd.C_drew ?_)));(case side2=>exact HC0_0.out);rintro e w13 ⟨rfl,hb⟩;refine ⟨_,rfl,?_⟩;have n0_:=A0_ (blk_below (g:=gb405) (o:=.cells #[.slice A0_0 l0_0.length c0_0,.int .i64 a0_1,.int .i64 a0_2,.int .i64 a0_3] 29 (0,0)) (bd_ BK405.out) hb);have n1_:=A0_ (below_step yq_ hb);clear BK405;clear HB;have BK405:=n0_;have HB:=n1_;clear n0_ n1_;(try clear hb);(try clear hb2);(try clear hk);(try clear hi);obtain ⟨hcz14_0,hcz14_1,hcz14_2,hcz14_3,hfz14_0,hfz14_1,hfz14_2,hfz14_3⟩:=bq4_ BK405.out)|(go_at_call 68;(with_reducible refine (sky_areTwo.calls _ _ l0_0 a0_1 a0_2 a0_3 a1 a2 true _ ?side1 ?side2 A9.out).mono ?_);(case side1=>repeat (first|exact (Kd.C_below HR0_0.out HB.out)|(with_reducible refine Kd.C_alloc ?_ _)|(with_reducible refine Kd.C_drewN ?_ _)|(with_reducible refine Kd.C_drew ?_)));(case side2=>exact HC0_0.out);rintro e w15 ⟨rfl,hb⟩;have n0_:=A0_ (blk_below (g:=gb405) (o:=.cells #[.slice A0_0 l0_0.length c0_0,.int .i64 a0_1,.int .i64 a0_2,.int .i64 a0_3] 29 (0,0)) (bd_ BK405.out) hb);have n1_:=A0_ (below_step yq_ hb);clear BK405;clear HB;have BK405:=n0_;have HB:=n1_;clear n0_ n1_;(try clear hb);(try clear hb2);(try clear hk);(try clear hi))|(go_at_call 79;(with_reducible refine (sky_isDay.calls a3 t408 _ A11.out).mono ?_);rintro e w' ⟨rfl,⟨nd,rfl⟩⟩))
    go_meet
    case rel=>exact ⟨_,(!t408),y4_,H',⟨by first|omega|exact Nat.le_refl _⟩,⟨by (with_reducible repeat (first|refine blk_drewN ?_ _|refine blk_drew ?_|refine blk_alloc ?_ _));exact BK405.out⟩,⟨yq_⟩⟩
   ·replace c10:=Bool.eq_false_iff.mpr c10;subst c10
    have H1:(sky_Between.j0 k a1 a2 a3 true l0_0 a0_1 a0_2 a0_3)=some (r1,r2):=by rw [if_neg (show ¬ (false=true) by decide)] at H;exact H
    clear H;have H:=H1;clear H1
    have H':=A0_ H
    clear H;obtain ⟨hcz16_0,hcz16_1,hcz16_2,hcz16_3,hfz16_0,hfz16_1,hfz16_2,hfz16_3⟩:=bq4_ BK405.out
    go_wp2_with (first|((with_reducible refine gate_callee (f:=62) rfl ?_);refine goesL_ (some 11) rfl rfl Tryz.func62 (by kernel_rfl) rfl #[.agg #[.slice A0_0 l0_0.length c0_0,.int .i64 a0_1,.int .i64 a0_2,.int .i64 a0_3]] rfl y1_ ?_;(with_reducible refine (sky_isSky.calls k _ _ l0_0 a0_1 a0_2 a0_3 true _ ?side1 ?side2 A7.out).mono ?_);(case side1=>repeat (first|exact (Kd.C_below HR0_0.out HB.out)|(with_reducible refine Kd.C_alloc ?_ _)|(with_reducible refine Kd.C_drewN ?_ _)|(with_reducible refine Kd.C_drew ?_)));(case side2=>exact HC0_0.out);rintro e w17 ⟨rfl,hb⟩;refine ⟨_,rfl,?_⟩;have n0_:=A0_ (blk_below (g:=gb405) (o:=.cells #[.slice A0_0 l0_0.length c0_0,.int .i64 a0_1,.int .i64 a0_2,.int .i64 a0_3] 29 (0,0)) (bd_ BK405.out) hb);have n1_:=A0_ (below_step yq_ hb);clear BK405;clear HB;have BK405:=n0_;have HB:=n1_;clear n0_ n1_;(try clear hb);(try clear hb2);(try clear hk);(try clear hi);obtain ⟨hcz18_0,hcz18_1,hcz18_2,hcz18_3,hfz18_0,hfz18_1,hfz18_2,hfz18_3⟩:=bq4_ BK405.out)|(go_at_call 68;(with_reducible refine (sky_areTwo.calls _ _ l0_0 a0_1 a0_2 a0_3 a1 a2 false _ ?side1 ?side2 A9.out).mono ?_);(case side1=>repeat (first|exact (Kd.C_below HR0_0.out HB.out)|(with_reducible refine Kd.C_alloc ?_ _)|(with_reducible refine Kd.C_drewN ?_ _)|(with_reducible refine Kd.C_drew ?_)));(case side2=>exact HC0_0.out);rintro e w19 ⟨rfl,hb⟩;have n0_:=A0_ (blk_below (g:=gb405) (o:=.cells #[.slice A0_0 l0_0.length c0_0,.int .i64 a0_1,.int .i64 a0_2,.int .i64 a0_3] 29 (0,0)) (bd_ BK405.out) hb);have n1_:=A0_ (below_step yq_ hb);clear BK405;clear HB;have BK405:=n0_;have HB:=n1_;clear n0_ n1_;(try clear hb);(try clear hb2);(try clear hk);(try clear hi)))
    go_meet
    case rel=>exact ⟨_,(true),y4_,H',⟨by first|omega|exact Nat.le_refl _⟩,⟨by (with_reducible repeat (first|refine blk_drewN ?_ _|refine blk_drew ?_|refine blk_alloc ?_ _));exact BK405.out⟩,⟨yq_⟩⟩
  ·replace c8:=Bool.eq_false_iff.mpr c8;subst c8
   have H1:(sky_Between.j0 k a1 a2 a3 true l0_0 a0_1 a0_2 a0_3)=some (r1,r2):=by rw [if_neg (show ¬ (false=true) by decide)] at H;exact H
   clear H;have H:=H1;clear H1
   have H':=A0_ H
   clear H;obtain ⟨hcz20_0,hcz20_1,hcz20_2,hcz20_3,hfz20_0,hfz20_1,hfz20_2,hfz20_3⟩:=bq4_ BK405.out
   go_wp2_with (first|((with_reducible refine gate_callee (f:=62) rfl ?_);refine goesL_ (some 11) rfl rfl Tryz.func62 (by kernel_rfl) rfl #[.agg #[.slice A0_0 l0_0.length c0_0,.int .i64 a0_1,.int .i64 a0_2,.int .i64 a0_3]] rfl y1_ ?_;(with_reducible refine (sky_isSky.calls k _ _ l0_0 a0_1 a0_2 a0_3 false _ ?side1 ?side2 A7.out).mono ?_);(case side1=>repeat (first|exact (Kd.C_below HR0_0.out HB.out)|(with_reducible refine Kd.C_alloc ?_ _)|(with_reducible refine Kd.C_drewN ?_ _)|(with_reducible refine Kd.C_drew ?_)));(case side2=>exact HC0_0.out);rintro e w21 ⟨rfl,hb⟩;refine ⟨_,rfl,?_⟩;have n0_:=A0_ (blk_below (g:=gb405) (o:=.cells #[.slice A0_0 l0_0.length c0_0,.int .i64 a0_1,.int .i64 a0_2,.int .i64 a0_3] 29 (0,0)) (bd_ BK405.out) hb);have n1_:=A0_ (below_step yq_ hb);clear BK405;clear HB;have BK405:=n0_;have HB:=n1_;clear n0_ n1_;(try clear hb);(try clear hb2);(try clear hk);(try clear hi)))
   go_meet
   case rel=>exact ⟨_,(true),y4_,H',⟨by first|omega|exact Nat.le_refl _⟩,⟨by (with_reducible repeat (first|refine blk_drewN ?_ _|refine blk_drew ?_|refine blk_alloc ?_ _));exact BK405.out⟩,⟨yq_⟩⟩
 case rest=>
  clear HC5;(try clear c1);(try clear p2);(try clear c4);(try clear c6);(try clear c8);(try clear c10);(try clear hcz12_0);(try clear hcz12_1);(try clear hcz12_2);(try clear hcz12_3);(try clear hcz14_0);(try clear hcz14_1);(try clear hcz14_2);(try clear hcz14_3);(try clear hcz16_0);(try clear hcz16_1);(try clear hcz16_2);(try clear hcz16_3);(try clear hcz18_0);(try clear hcz18_1);(try clear hcz18_2);(try clear hcz18_3);(try clear hcz20_0);(try clear hcz20_1);(try clear hcz20_2);(try clear hcz20_3);(try clear hfz12_0);(try clear hfz12_1);(try clear hfz12_2);(try clear hfz12_3);(try clear hfz14_0);(try clear hfz14_1);(try clear hfz14_2);(try clear hfz14_3);(try clear hfz16_0);(try clear hfz16_1);(try clear hfz16_2);(try clear hfz16_3);(try clear hfz18_0);(try clear hfz18_1);(try clear hfz18_2);(try clear hfz18_3);(try clear hfz20_0);(try clear hfz20_1);(try clear hfz20_2);(try clear hfz20_3)
  obtain ⟨kq,x24_4,rfl,HA,HJ4,BK405,HB⟩:=hcut
  cases kq with
  |zero=>exact absurd HA.out (by simp [sky_Between.j0])
  |succ kj4=>
   have H:=HA.out
   clear HA
   simp only [sky_Between.j0] at H
   by_cases c22:x24_4=true
   ·subst c22
    have H1:(some (0,2))=some (r1,r2):=by rw [if_pos rfl] at H;exact H
    clear H;have H:=H1;clear H1
    simp only [Option.some.injEq,Prod.mk.injEq] at H
    obtain ⟨rfl,rfl⟩:=H;go_wp2
    go_ret2
    exact ⟨y2_,yq_⟩
   ·replace c22:=Bool.eq_false_iff.mpr c22;subst c22
    have H1:((ss_ahead.f kj4 l0_0 a0_1 a0_2 a0_3 a3 a1 a2).bind fun t409=>((sky_around.f t409).bind fun t410=>(some (t410,0))))=some (r1,r2):=by rw [if_neg (show ¬ (false=true) by decide)] at H;exact H
    clear H;have H:=H1;clear H1;replace H:=Option.bind_eq_some_iff.mp H;obtain ⟨t409,A230,H⟩:=H
    replace H:((sky_around.f t409).bind fun t410=>(some (t410,0)))=some (r1,r2):=H
    have A23:=A0_ A230;clear A230;replace H:=Option.bind_eq_some_iff.mp H;obtain ⟨t410,A240,H⟩:=H
    replace H:(some (t410,0))=some (r1,r2):=H
    have A24:=A0_ A240;clear A240
    simp only [Option.some.injEq,Prod.mk.injEq] at H
    obtain ⟨rfl,rfl⟩:=H;obtain ⟨hcz25_0,hcz25_1,hcz25_2,hcz25_3,hfz25_0,hfz25_1,hfz25_2,hfz25_3⟩:=bq4_ BK405.out
    go_wp2_with (first|((with_reducible refine gate_callee (f:=73) rfl ?_);refine goesL_ (some 30) rfl rfl Tryz.func73 (by kernel_rfl) rfl #[.agg #[.slice A0_0 l0_0.length c0_0,.int .i64 a0_1,.int .i64 a0_2,.int .i64 a0_3,.int .i64 a3],.int .i64 a1,.int .i64 a2] rfl y1_ ?_;(with_reducible refine (ss_ahead.calls kj4 _ _ l0_0 a0_1 a0_2 a0_3 a3 a1 a2 t409 _ ?side1 ?side2 A23.out).mono ?_);(case side1=>repeat (first|exact (Kd.C_below HR0_0.out HB.out)|(with_reducible refine Kd.C_alloc ?_ _)|(with_reducible refine Kd.C_drewN ?_ _)|(with_reducible refine Kd.C_drew ?_)));(case side2=>exact HC0_0.out);rintro e w26 ⟨rfl,hb⟩;refine ⟨_,rfl,?_⟩;have n0_:=A0_ (blk_below (g:=gb405) (o:=.cells #[.slice A0_0 l0_0.length c0_0,.int .i64 a0_1,.int .i64 a0_2,.int .i64 a0_3] 29 (0,0)) (bd_ BK405.out) hb);have n1_:=A0_ (below_step yq_ hb);clear BK405;clear HB;have BK405:=n0_;have HB:=n1_;clear n0_ n1_;(try clear hb);(try clear hb2);(try clear hk);(try clear hi))|((with_reducible refine gate_callee (f:=80) rfl ?_);refine goesL_ (some 31) rfl rfl Tryz.func80 (by kernel_rfl) rfl #[.int .i64 t409] rfl y1_ ?_;(with_reducible refine (sky_around.calls t409 t410 _ A24.out).mono ?_);rintro e w' ⟨rfl,⟨nd,rfl⟩⟩;refine ⟨_,rfl,?_⟩))
    go_ret2
    exact ⟨y2_,yq_⟩
def sky_isSpan.f (a0:Int) (a1:Int):Option (Bool):=(sky_in.f a0 1 20000).bind fun t420=>(if t420=true then ((sky_in.f a1 a0 20000).bind fun t421=>(if t421=true then (some (decide ((wrap64 (a1 - a0))≤800))) else (some false))) else (some false))
set_option maxHeartbeats 8000000 in
set_option maxRecDepth 100000 in
theorem sky_isSpan.calls (a0:Int) (a1:Int) (r:Bool) (w:World) (h:sky_isSpan.f a0 a1=some r):
  Calls Tryz.prog 69 #[.int .i64 a0,.int .i64 a1] w fun e w'=>e=.returned (.bool r)∧Drawn0 w w':=by
 have H:((sky_in.f a0 1 20000).bind fun t420=>(if t420=true then ((sky_in.f a1 a0 20000).bind fun t421=>(if t421=true then (some (decide ((wrap64 (a1 - a0))≤800))) else (some false))) else (some false)))=some r:=h
 clear h;replace H:=Option.bind_eq_some_iff.mp H;obtain ⟨t420,A30,H⟩:=H
 replace H:(if t420=true then ((sky_in.f a1 a0 20000).bind fun t421=>(if t421=true then (some (decide ((wrap64 (a1 - a0))≤800))) else (some false))) else (some false))=some r:=H
 have A3:=A0_ A30;clear A30
 by_cases c4:t420=true
 ·subst c4
  have H1:((sky_in.f a1 a0 20000).bind fun t421=>(if t421=true then (some (decide ((wrap64 (a1 - a0))≤800))) else (some false)))=some r:=by rw [if_pos rfl] at H;exact H
  clear H;have H:=H1;clear H1;replace H:=Option.bind_eq_some_iff.mp H;obtain ⟨t421,A50,H⟩:=H
  replace H:(if t421=true then (some (decide ((wrap64 (a1 - a0))≤800))) else (some false))=some r:=H
  have A5:=A0_ A50;clear A50
  by_cases c6:t421=true
  ·subst c6
   have H1:(some (decide ((wrap64 (a1 - a0))≤800)))=some r:=by rw [if_pos rfl] at H;exact H
   clear H;have H:=H1;clear H1;obtain rfl:=Option.some.inj H
   go_enter Tryz.func69,Tryz.ntmps69
   go_wp2_with (first|((with_reducible refine gate_callee (f:=104) rfl ?_);refine goesL_ (some 6) rfl rfl Tryz.func104 (by kernel_rfl) rfl #[.int .i64 a0,.int .i64 1,.int .i64 20000] rfl y1_ ?_;(with_reducible refine (sky_in.calls a0 1 20000 true _ A3.out).mono ?_);rintro e w' ⟨rfl,⟨nd,rfl⟩⟩;refine ⟨_,rfl,?_⟩)|(go_at_call 104;(with_reducible refine (sky_in.calls a1 a0 20000 true _ A5.out).mono ?_);rintro e w' ⟨rfl,⟨nd,rfl⟩⟩))
   go_ret
   exact ⟨y4_,yb_⟩
  ·replace c6:=Bool.eq_false_iff.mpr c6;subst c6
   have H1:(some false)=some r:=by rw [if_neg (show ¬ (false=true) by decide)] at H;exact H
   clear H;have H:=H1;clear H1;obtain rfl:=Option.some.inj H
   go_enter Tryz.func69,Tryz.ntmps69
   go_wp2_with (first|((with_reducible refine gate_callee (f:=104) rfl ?_);refine goesL_ (some 6) rfl rfl Tryz.func104 (by kernel_rfl) rfl #[.int .i64 a0,.int .i64 1,.int .i64 20000] rfl y1_ ?_;(with_reducible refine (sky_in.calls a0 1 20000 true _ A3.out).mono ?_);rintro e w' ⟨rfl,⟨nd,rfl⟩⟩;refine ⟨_,rfl,?_⟩)|(go_at_call 104;(with_reducible refine (sky_in.calls a1 a0 20000 false _ A5.out).mono ?_);rintro e w' ⟨rfl,⟨nd,rfl⟩⟩))
   go_ret
   exact ⟨y4_,yb_⟩
 ·replace c4:=Bool.eq_false_iff.mpr c4;subst c4
  have H1:(some false)=some r:=by rw [if_neg (show ¬ (false=true) by decide)] at H;exact H
  clear H;have H:=H1;clear H1;obtain rfl:=Option.some.inj H
  go_enter Tryz.func69,Tryz.ntmps69
  go_wp2_with (first|((with_reducible refine gate_callee (f:=104) rfl ?_);refine goesL_ (some 6) rfl rfl Tryz.func104 (by kernel_rfl) rfl #[.int .i64 a0,.int .i64 1,.int .i64 20000] rfl y1_ ?_;(with_reducible refine (sky_in.calls a0 1 20000 false _ A3.out).mono ?_);rintro e w' ⟨rfl,⟨nd,rfl⟩⟩;refine ⟨_,rfl,?_⟩))
  go_ret
  exact ⟨y4_,yb_⟩
def ss_node.f (l0_0:List (S74)) (a0_1:Int) (a0_2:Int) (a0_3:Int) (a0_4:Int):Option (Int):=(ss_gone.f l0_0 a0_1 a0_2 a0_3 a0_4 a0_1 a0_2).bind fun t545=>((sky_around.f (wrap64 (a0_3 - t545))).bind fun t546=>(some t546))
def ss_node.T1:Bool × List (List Nat × List Nat):=(true,[([],[]),([0],[0]),([1],[1]),([2],[2]),([],[]),([],[]),([5],[5]),([6],[6]),([7],[7]),([4,8],[4,8]),([3,9],[3,9]),([10,9],[10]),([11,11,0,1,2,3,4,5,6,7,8,9,10,11],[11])])
def ss_node.B1:List Nat:=[0,1,3,7,0,0,32,96,224,496,1023,2047,4095]
theorem ss_node.tab1:rtab .any (opsOf Tryz.f95 1)=ss_node.T1:=by kernel_rfl
theorem ss_node.bits1:waitsOk ss_node.T1.2 ss_node.B1=true:=by kernel_rfl
set_option maxHeartbeats 8000000 in
set_option maxRecDepth 100000 in
theorem ss_node.calls (A0_0:Option Addr) (c0_0:Nat) (l0_0:List (S74)) (a0_1:Int) (a0_2:Int) (a0_3:Int) (a0_4:Int) (r:Int) (w:World) (hr0_0:Kd.C k74 w A0_0 l0_0.length l0_0) (hc0_0:l0_0.length≤c0_0) (h:ss_node.f l0_0 a0_1 a0_2 a0_3 a0_4=some r):
  Calls Tryz.prog 95 #[.agg #[.slice A0_0 l0_0.length c0_0,.int .i64 a0_1,.int .i64 a0_2,.int .i64 a0_3,.int .i64 a0_4]] w fun e w'=>e=.returned (.int .i64 r)∧Below w.heap.size w w':=by
 have hu112:=Tryz.underlying112
 have hu25:=Tryz.underlying25
 have HR0_0:=A0_ hr0_0;have HC0_0:=A0_ hc0_0;clear hr0_0 hc0_0
 have HB:=A0_ (Below.refl w.heap.size w)
 have H:((ss_gone.f l0_0 a0_1 a0_2 a0_3 a0_4 a0_1 a0_2).bind fun t545=>((sky_around.f (wrap64 (a0_3 - t545))).bind fun t546=>(some t546)))=some r:=h
 clear h;replace H:=Option.bind_eq_some_iff.mp H;obtain ⟨t545,A20,H⟩:=H
 replace H:((sky_around.f (wrap64 (a0_3 - t545))).bind fun t546=>(some t546))=some r:=H
 have A2:=A0_ A20;clear A20;replace H:=Option.bind_eq_some_iff.mp H;obtain ⟨t546,A30,H⟩:=H
 replace H:(some t546)=some r:=H
 have A3:=A0_ A30;clear A30;obtain rfl:=Option.some.inj H
 go_enter Tryz.func95,Tryz.ntmps95
 try go_wp2_with (first|((with_reducible refine gate_dst (N:=1) rfl ?_);refine box_event ?hg (N:=1) ?hd (cs:=#[.slice A0_0 l0_0.length c0_0,.int .i64 a0_1,.int .i64 a0_2,.int .i64 a0_3,.int .i64 a0_4]) (t:=112) ?hr ?_;(case hd=>rfl);(case hg=>rfl);(case hr=>first|(go_simp;done)|(go_simp;rfl));intro gb544 hg w4 hbox hb;have n0_:=A0_ (below_step y0_ hb);have n1_:=A0_ (hbox);have n2_:=A0_ ((by rw [hg];exact (below_size y0_):w.heap.size≤gb544));have n3_:=A0_ ((by rw [hg];exact (below_size y0_):w.heap.size≤gb544));clear HB;have HB:=n0_;have BK544:=n1_;have GW544:=n2_;have GE544:=n3_;clear n0_ n1_ n2_ n3_;clear hb hbox hg))
 have n0_:=A0_ (blk_drew BK544.out);have n1_:=A0_ (below_drew1 HB.out);clear BK544;clear HB;have BK544:=n0_;have HB:=n1_;clear n0_ n1_
 refine start_ (n:=13) (S:=fun w'=>w'.cell? ⟨gb544,0,none⟩=some (.slice A0_0 l0_0.length c0_0)∧w'.cell? ⟨gb544,1,none⟩=some (.int .i64 a0_1)∧w'.cell? ⟨gb544,2,none⟩=some (.int .i64 a0_2)∧w'.cell? ⟨gb544,3,none⟩=some (.int .i64 a0_3)∧w'.cell? ⟨gb544,4,none⟩=some (.int .i64 a0_4)) (ds:=[]) #[false,false,false,false,false,false,false,false,false,false,false,false,false] (by kernel_rfl) rfl rfl ⟨(blk_cell BK544.out 0).trans rfl,(blk_cell BK544.out 1).trans rfl,(blk_cell BK544.out 2).trans rfl,(blk_cell BK544.out 3).trans rfl,(blk_cell BK544.out 4).trans rfl⟩ (fun hHeld=>?_);refine with_tabW ss_node.tab1 ss_node.bits1 (fun HT_ HW_=>?_)
 generalize w4.drew=w5 at BK544 HB hHeld ⊢
 refine pu_ (i:=0) (N:=some 3) ?_;refine pu_ (i:=1) (N:=some 4) ?_;refine pu_ (i:=2) (N:=some 5) ?_;refine pu_ (i:=5) (N:=some 8) ?_;refine pu_ (i:=6) (N:=some 9) ?_;refine pu_ (i:=7) (N:=some 10) ?_;refine ta_ (i:=3) (N:=some 6) ?_;refine ta_ (i:=4) (N:=some 7) ?_;refine ta_ (i:=8) (N:=some 11) ?_
 refine one_ (i:=9) (N:=some 12) #[true,true,true,true,true,true,true,true,true,true,false,false,false] rfl rfl (one_of HT_.out (by kernel_rfl)) (by decide) (fun K hK=>?_)
 refine goes_ Tryz.func134 (by kernel_rfl) rfl #[.agg #[.slice A0_0 l0_0.length c0_0,.int .i64 a0_1,.int .i64 a0_2,.int .i64 a0_3,.int .i64 a0_4],.agg #[.int .i64 a0_1,.int .i64 a0_2]] (by rfl) rfl rfl y1_ ?_
 with_reducible refine (ss_gone.calls _ _ l0_0 a0_1 a0_2 a0_3 a0_4 a0_1 a0_2 t545 _ ?side1 ?side2 A2.out).mono ?_
 (case side1=>repeat (first|exact (Kd.C_below HR0_0.out HB.out)|(with_reducible refine Kd.C_alloc ?_ _)|(with_reducible refine Kd.C_drewN ?_ _)|(with_reducible refine Kd.C_drew ?_)))
 (case side2=>exact HC0_0.out)
 rintro e w6 ⟨rfl,hb⟩
 refine ⟨_,rfl,?_⟩
 have n0_:=A0_ (blk_below (g:=gb544) (o:=.cells #[.slice A0_0 l0_0.length c0_0,.int .i64 a0_1,.int .i64 a0_2,.int .i64 a0_3,.int .i64 a0_4] 112 (0,0)) (bd_ BK544.out) hb);have n1_:=A0_ (below_step y31_ hb);clear BK544;clear HB;have BK544:=n0_;have HB:=n1_;clear n0_ n1_;(try clear hb);(try clear hb2);(try clear hk);(try clear hi)
 refine hK.out _ _ ⟨(blk_cell BK544.out 0).trans rfl,(blk_cell BK544.out 1).trans rfl,(blk_cell BK544.out 2).trans rfl,(blk_cell BK544.out 3).trans rfl,(blk_cell BK544.out 4).trans rfl⟩ (fun hHeld=>?_)
 clear hK K
 refine norm_ (a':=?_) ?_ ?_
 rotate_left
 ·show Act.put _ (some 12) _=_
  simp only [Act.put,List.setIfInBounds_toArray,List.set_cons_zero,List.set_cons_succ,i64_w,i32_w]
  rfl
 refine pu_ (i:=10) (N:=some 13) ?_
 refine one_ (i:=11) (N:=some 14) #[true,true,true,true,true,true,true,true,true,true,true,true,false] rfl rfl (one_of HT_.out (by kernel_rfl)) (by decide) (fun K hK=>?_)
 refine goes_ Tryz.func80 (by kernel_rfl) rfl #[.int .i64 (wrap64 (a0_3 - t545))] (by rfl) rfl rfl y1_ ?_
 with_reducible refine (sky_around.calls (wrap64 (a0_3 - t545)) t546 _ A3.out).mono ?_
 rintro e w' ⟨rfl,⟨nd,rfl⟩⟩
 refine ⟨_,rfl,?_⟩
 refine hK.out _ _ ⟨(blk_cell BK544.out 0).trans rfl,(blk_cell BK544.out 1).trans rfl,(blk_cell BK544.out 2).trans rfl,(blk_cell BK544.out 3).trans rfl,(blk_cell BK544.out 4).trans rfl⟩ (fun hHeld=>?_)
 clear hK K
 refine norm_ (a':=?_) ?_ ?_
 rotate_left
 ·show Act.put _ (some 14) _=_
  simp only [Act.put,List.setIfInBounds_toArray,List.set_cons_zero,List.set_cons_succ,i64_w,i32_w]
  rfl
 refine pu_ (i:=12) (N:=some 2) ?_
 refine done_ (done_of HT_.out (by kernel_rfl)) ?_
 try go_wp2
 go_ret
 exact ⟨y2_,y31_⟩
def sky_Node.f (k:Nat) (l0_0:List (S74)) (a0_1:Int) (a0_2:Int) (a0_3:Int) (a1:Int):Option (Int × Int):=(sky_isSky.f k l0_0 a0_1 a0_2 a0_3).bind fun t548=>(if t548=true then ((sky_isDay.f a1).bind fun t549=>(if t549=true then ((ss_node.f l0_0 a0_1 a0_2 a0_3 a1).bind fun t550=>(some (t550,0))) else (some (0,2)))) else (some (0,2)))
set_option maxHeartbeats 8000000 in
set_option maxRecDepth 100000 in
theorem sky_Node.calls (k:Nat) (A0_0:Option Addr) (c0_0:Nat) (l0_0:List (S74)) (a0_1:Int) (a0_2:Int) (a0_3:Int) (a1:Int) (r1:Int) (r2:Int) (w:World) (hr0_0:Kd.C k74 w A0_0 l0_0.length l0_0) (hc0_0:l0_0.length≤c0_0) (h:sky_Node.f k l0_0 a0_1 a0_2 a0_3 a1=some (r1,r2)):
  Calls Tryz.prog 42 #[.agg #[.slice A0_0 l0_0.length c0_0,.int .i64 a0_1,.int .i64 a0_2,.int .i64 a0_3],.int .i64 a1] w fun e w'=>e=.returned (.tuple #[.int .i64 r1,.int .i64 r2])∧Below w.heap.size w w':=by
 have hu29:=Tryz.underlying29
 have hu112:=Tryz.underlying112
 have HR0_0:=A0_ hr0_0;have HC0_0:=A0_ hc0_0;clear hr0_0 hc0_0
 have HB:=A0_ (Below.refl w.heap.size w)
 have H:((sky_isSky.f k l0_0 a0_1 a0_2 a0_3).bind fun t548=>(if t548=true then ((sky_isDay.f a1).bind fun t549=>(if t549=true then ((ss_node.f l0_0 a0_1 a0_2 a0_3 a1).bind fun t550=>(some (t550,0))) else (some (0,2)))) else (some (0,2))))=some (r1,r2):=h
 clear h;replace H:=Option.bind_eq_some_iff.mp H;obtain ⟨t548,A30,H⟩:=H
 replace H:(if t548=true then ((sky_isDay.f a1).bind fun t549=>(if t549=true then ((ss_node.f l0_0 a0_1 a0_2 a0_3 a1).bind fun t550=>(some (t550,0))) else (some (0,2)))) else (some (0,2)))=some (r1,r2):=H
 have A3:=A0_ A30;clear A30
 by_cases c4:t548=true
 ·subst c4
  have H1:((sky_isDay.f a1).bind fun t549=>(if t549=true then ((ss_node.f l0_0 a0_1 a0_2 a0_3 a1).bind fun t550=>(some (t550,0))) else (some (0,2))))=some (r1,r2):=by rw [if_pos rfl] at H;exact H
  clear H;have H:=H1;clear H1;replace H:=Option.bind_eq_some_iff.mp H;obtain ⟨t549,A50,H⟩:=H
  replace H:(if t549=true then ((ss_node.f l0_0 a0_1 a0_2 a0_3 a1).bind fun t550=>(some (t550,0))) else (some (0,2)))=some (r1,r2):=H
  have A5:=A0_ A50;clear A50
  by_cases c6:t549=true
  ·subst c6
   have H1:((ss_node.f l0_0 a0_1 a0_2 a0_3 a1).bind fun t550=>(some (t550,0)))=some (r1,r2):=by rw [if_pos rfl] at H;exact H
   clear H;have H:=H1;clear H1;replace H:=Option.bind_eq_some_iff.mp H;obtain ⟨t550,A70,H⟩:=H
   replace H:(some (t550,0))=some (r1,r2):=H
   have A7:=A0_ A70;clear A70
   simp only [Option.some.injEq,Prod.mk.injEq] at H
   obtain ⟨rfl,rfl⟩:=H
   go_enter Tryz.func42,Tryz.ntmps42
   go_wp2_with (first|((with_reducible refine gate_dst (N:=2) rfl ?_);refine box_event ?hg (N:=2) ?hd (cs:=#[.slice A0_0 l0_0.length c0_0,.int .i64 a0_1,.int .i64 a0_2,.int .i64 a0_3]) (t:=29) ?hr ?_;(case hd=>rfl);(case hg=>rfl);(case hr=>first|(go_simp;done)|(go_simp;rfl));intro gb547 hg w8 hbox hb;have n0_:=A0_ (below_step y0_ hb);have n1_:=A0_ (hbox);have n2_:=A0_ ((by rw [hg];exact (below_size y0_):w.heap.size≤gb547));have n3_:=A0_ ((by rw [hg];exact (below_size y0_):w.heap.size≤gb547));clear HB;have HB:=n0_;have BK547:=n1_;have GW547:=n2_;have GE547:=n3_;clear n0_ n1_ n2_ n3_;clear hb hbox hg;obtain ⟨hcz9_0,hcz9_1,hcz9_2,hcz9_3,hfz9_0,hfz9_1,hfz9_2,hfz9_3⟩:=bq4_ BK547.out)|((with_reducible refine gate_callee (f:=62) rfl ?_);refine goesL_ (some 7) rfl rfl Tryz.func62 (by kernel_rfl) rfl #[.agg #[.slice A0_0 l0_0.length c0_0,.int .i64 a0_1,.int .i64 a0_2,.int .i64 a0_3]] rfl y1_ ?_;(with_reducible refine (sky_isSky.calls k _ _ l0_0 a0_1 a0_2 a0_3 true _ ?side1 ?side2 A3.out).mono ?_);(case side1=>repeat (first|exact (Kd.C_below HR0_0.out HB.out)|(with_reducible refine Kd.C_alloc ?_ _)|(with_reducible refine Kd.C_drewN ?_ _)|(with_reducible refine Kd.C_drew ?_)));(case side2=>exact HC0_0.out);rintro e w10 ⟨rfl,hb⟩;refine ⟨_,rfl,?_⟩;have n0_:=A0_ (blk_below (g:=gb547) (o:=.cells #[.slice A0_0 l0_0.length c0_0,.int .i64 a0_1,.int .i64 a0_2,.int .i64 a0_3] 29 (0,0)) (bd_ BK547.out) hb);have n1_:=A0_ (below_step y18_ hb);clear BK547;clear HB;have BK547:=n0_;have HB:=n1_;clear n0_ n1_;(try clear hb);(try clear hb2);(try clear hk);(try clear hi))|(go_at_call 79;(with_reducible refine (sky_isDay.calls a1 true _ A5.out).mono ?_);rintro e w' ⟨rfl,⟨nd,rfl⟩⟩;obtain ⟨hcz11_0,hcz11_1,hcz11_2,hcz11_3,hfz11_0,hfz11_1,hfz11_2,hfz11_3⟩:=bq4_ BK547.out)|((with_reducible refine gate_callee (f:=95) rfl ?_);refine goesL_ (some 17) rfl rfl Tryz.func95 (by kernel_rfl) rfl #[.agg #[.slice A0_0 l0_0.length c0_0,.int .i64 a0_1,.int .i64 a0_2,.int .i64 a0_3,.int .i64 a1]] rfl y1_ ?_;(with_reducible refine (ss_node.calls _ _ l0_0 a0_1 a0_2 a0_3 a1 t550 _ ?side1 ?side2 A7.out).mono ?_);(case side1=>repeat (first|exact (Kd.C_below HR0_0.out y18_)|(with_reducible refine Kd.C_alloc ?_ _)|(with_reducible refine Kd.C_drewN ?_ _)|(with_reducible refine Kd.C_drew ?_)));(case side2=>exact HC0_0.out);rintro e w12 ⟨rfl,hb⟩;refine ⟨_,rfl,?_⟩;have n0_:=A0_ (blk_below (g:=gb547) (o:=.cells #[.slice A0_0 l0_0.length c0_0,.int .i64 a0_1,.int .i64 a0_2,.int .i64 a0_3] 29 (0,0)) (bd_ BK547.out) hb);have n1_:=A0_ (below_step y18_ hb);clear BK547;clear HB;have BK547:=n0_;have HB:=n1_;clear n0_ n1_;(try clear hb);(try clear hb2);(try clear hk);(try clear hi)))
   go_ret2
   exact ⟨y2_,y18_⟩
  ·replace c6:=Bool.eq_false_iff.mpr c6;subst c6
   have H1:(some (0,2))=some (r1,r2):=by rw [if_neg (show ¬ (false=true) by decide)] at H;exact H
   clear H;have H:=H1;clear H1
   simp only [Option.some.injEq,Prod.mk.injEq] at H
   obtain ⟨rfl,rfl⟩:=H
   go_enter Tryz.func42,Tryz.ntmps42
   go_wp2_with (first|((with_reducible refine gate_dst (N:=2) rfl ?_);refine box_event ?hg (N:=2) ?hd (cs:=#[.slice A0_0 l0_0.length c0_0,.int .i64 a0_1,.int .i64 a0_2,.int .i64 a0_3]) (t:=29) ?hr ?_;(case hd=>rfl);(case hg=>rfl);(case hr=>first|(go_simp;done)|(go_simp;rfl));intro gb547 hg w13 hbox hb;have n0_:=A0_ (below_step y0_ hb);have n1_:=A0_ (hbox);have n2_:=A0_ ((by rw [hg];exact (below_size y0_):w.heap.size≤gb547));have n3_:=A0_ ((by rw [hg];exact (below_size y0_):w.heap.size≤gb547));clear HB;have HB:=n0_;have BK547:=n1_;have GW547:=n2_;have GE547:=n3_;clear n0_ n1_ n2_ n3_;clear hb hbox hg;obtain ⟨hcz14_0,hcz14_1,hcz14_2,hcz14_3,hfz14_0,hfz14_1,hfz14_2,hfz14_3⟩:=bq4_ BK547.out)|((with_reducible refine gate_callee (f:=62) rfl ?_);refine goesL_ (some 7) rfl rfl Tryz.func62 (by kernel_rfl) rfl #[.agg #[.slice A0_0 l0_0.length c0_0,.int .i64 a0_1,.int .i64 a0_2,.int .i64 a0_3]] rfl y1_ ?_;(with_reducible refine (sky_isSky.calls k _ _ l0_0 a0_1 a0_2 a0_3 true _ ?side1 ?side2 A3.out).mono ?_);(case side1=>repeat (first|exact (Kd.C_below HR0_0.out HB.out)|(with_reducible refine Kd.C_alloc ?_ _)|(with_reducible refine Kd.C_drewN ?_ _)|(with_reducible refine Kd.C_drew ?_)));(case side2=>exact HC0_0.out);rintro e w15 ⟨rfl,hb⟩;refine ⟨_,rfl,?_⟩;have n0_:=A0_ (blk_below (g:=gb547) (o:=.cells #[.slice A0_0 l0_0.length c0_0,.int .i64 a0_1,.int .i64 a0_2,.int .i64 a0_3] 29 (0,0)) (bd_ BK547.out) hb);have n1_:=A0_ (below_step y18_ hb);clear BK547;clear HB;have BK547:=n0_;have HB:=n1_;clear n0_ n1_;(try clear hb);(try clear hb2);(try clear hk);(try clear hi))|(go_at_call 79;(with_reducible refine (sky_isDay.calls a1 false _ A5.out).mono ?_);rintro e w' ⟨rfl,⟨nd,rfl⟩⟩))
   go_ret2
   exact ⟨y2_,y18_⟩
 ·replace c4:=Bool.eq_false_iff.mpr c4;subst c4
  have H1:(some (0,2))=some (r1,r2):=by rw [if_neg (show ¬ (false=true) by decide)] at H;exact H
  clear H;have H:=H1;clear H1
  simp only [Option.some.injEq,Prod.mk.injEq] at H
  obtain ⟨rfl,rfl⟩:=H
  go_enter Tryz.func42,Tryz.ntmps42
  go_wp2_with (first|((with_reducible refine gate_dst (N:=2) rfl ?_);refine box_event ?hg (N:=2) ?hd (cs:=#[.slice A0_0 l0_0.length c0_0,.int .i64 a0_1,.int .i64 a0_2,.int .i64 a0_3]) (t:=29) ?hr ?_;(case hd=>rfl);(case hg=>rfl);(case hr=>first|(go_simp;done)|(go_simp;rfl));intro gb547 hg w16 hbox hb;have n0_:=A0_ (below_step y0_ hb);have n1_:=A0_ (hbox);have n2_:=A0_ ((by rw [hg];exact (below_size y0_):w.heap.size≤gb547));have n3_:=A0_ ((by rw [hg];exact (below_size y0_):w.heap.size≤gb547));clear HB;have HB:=n0_;have BK547:=n1_;have GW547:=n2_;have GE547:=n3_;clear n0_ n1_ n2_ n3_;clear hb hbox hg;obtain ⟨hcz17_0,hcz17_1,hcz17_2,hcz17_3,hfz17_0,hfz17_1,hfz17_2,hfz17_3⟩:=bq4_ BK547.out)|((with_reducible refine gate_callee (f:=62) rfl ?_);refine goesL_ (some 7) rfl rfl Tryz.func62 (by kernel_rfl) rfl #[.agg #[.slice A0_0 l0_0.length c0_0,.int .i64 a0_1,.int .i64 a0_2,.int .i64 a0_3]] rfl y1_ ?_;(with_reducible refine (sky_isSky.calls k _ _ l0_0 a0_1 a0_2 a0_3 false _ ?side1 ?side2 A3.out).mono ?_);(case side1=>repeat (first|exact (Kd.C_below HR0_0.out HB.out)|(with_reducible refine Kd.C_alloc ?_ _)|(with_reducible refine Kd.C_drewN ?_ _)|(with_reducible refine Kd.C_drew ?_)));(case side2=>exact HC0_0.out);rintro e w18 ⟨rfl,hb⟩;refine ⟨_,rfl,?_⟩;have n0_:=A0_ (blk_below (g:=gb547) (o:=.cells #[.slice A0_0 l0_0.length c0_0,.int .i64 a0_1,.int .i64 a0_2,.int .i64 a0_3] 29 (0,0)) (bd_ BK547.out) hb);have n1_:=A0_ (below_step y18_ hb);clear BK547;clear HB;have BK547:=n0_;have HB:=n1_;clear n0_ n1_;(try clear hb);(try clear hb2);(try clear hk);(try clear hi)))
  go_ret2
  exact ⟨y2_,y18_⟩
def sky_round.f (a0:Int):Option (Int):=(sky_around.f a0).bind fun t625=>(some (mn t625 (wrap64 (21600 - t625))))
set_option maxHeartbeats 8000000 in
set_option maxRecDepth 100000 in
theorem sky_round.calls (a0:Int) (r:Int) (w:World) (h:sky_round.f a0=some r):
  Calls Tryz.prog 72 #[.int .i64 a0] w fun e w'=>e=.returned (.int .i64 r)∧Below w.heap.size w w':=by
 have HB:=A0_ (Below.refl w.heap.size w)
 have H:((sky_around.f a0).bind fun t625=>(some (mn t625 (wrap64 (21600 - t625)))))=some r:=h
 clear h;replace H:=Option.bind_eq_some_iff.mp H;obtain ⟨t625,A20,H⟩:=H
 replace H:(some (mn t625 (wrap64 (21600 - t625))))=some r:=H
 have A2:=A0_ A20;clear A20
 obtain ⟨ji3,hji3⟩:∃ j_:Int,(mn t625 (wrap64 (21600 - t625)))=j_:=⟨_,rfl⟩
 replace H:(some ji3)=some r:=by first|(rw [hji3] at H;exact H)|(simp only [hji3] at H ⊢;exact H)
 (try rw [hji3] at A2)
 have hji3_:(if (wrap64 (21600 - t625))<t625 then (wrap64 (21600 - t625)) else t625)=ji3:=hji3
 obtain rfl:=Option.some.inj H
 go_enter Tryz.func72,Tryz.ntmps72
 go_wp2_with (first|((with_reducible refine gate_callee (f:=80) rfl ?_);refine goesL_ (some 5) rfl rfl Tryz.func80 (by kernel_rfl) rfl #[.int .i64 a0] rfl y1_ ?_;(with_reducible refine (sky_around.calls a0 t625 _ A2.out).mono ?_);rintro e w' ⟨rfl,⟨nd,rfl⟩⟩;refine ⟨_,rfl,?_⟩))
 go_ret
 exact ⟨by first|rfl|(simp [errW_none,errW_some] <;> rfl)|(simp only [← hji3];first|rfl|(simp [errW_none,errW_some] <;> rfl))|(simp [*,errW_none,errW_some] <;> rfl),y0_⟩
def sky_gcd.l0:Nat→Int→Int→Option (Int)
 |0,_,_=>none
 |k+1,x0,x1=>if x1 > 0 then (if x1=0 then (none) else (sky_gcd.l0 k x1 (Int.tmod x0 x1))) else (some x0)
def sky_gcd.f (k:Nat) (a0:Int) (a1:Int):Option (Int):=sky_gcd.l0 k a0 a1
set_option maxHeartbeats 8000000 in
set_option maxRecDepth 100000 in
theorem sky_gcd.calls (k:Nat) (a0:Int) (a1:Int) (r:Int) (w:World) (h:sky_gcd.f k a0 a1=some r):
  Calls Tryz.prog 87 #[.int .i64 a0,.int .i64 a1] w fun e w'=>e=.returned (.int .i64 r)∧Drawn0 w w':=by
 have H:(sky_gcd.l0 k a0 a1)=some r:=h
 clear h
 have H':=A0_ H
 clear H
 go_enter Tryz.func87,Tryz.ntmps87
 go_wp2
 repeat (go_quiet (fail);try go_wp2)
 go_loopg [0,1] k (fun kq v0 v1 w'=>∃ (x0_1:Int) (x1_1:Int),v0=.int .i64 x0_1∧v1=.int .i64 x1_1∧Aside0 (sky_gcd.l0 kq x0_1 x1_1=some r)∧Aside0 (kq≤k)∧Drawn0 w w')
 case atStart=>exact ⟨(a0),(a1),y4_,y4_,H',⟨Nat.le_refl _⟩,yb_⟩
 case round=>
  clear H'
  (try clear p2)
  obtain ⟨x0_1,x1_1,rfl,rfl,HA,HK1,⟨m1,rfl⟩⟩:=hrel
  cases gk with
  |zero=>exact absurd HA.out (by simp [sky_gcd.l0])
  |succ k1=>
   have H:=HA.out
   clear HA
   simp only [sky_gcd.l0] at H
   by_cases c3:x1_1 > 0
   ·rw [if_pos c3] at H;have c3b0:decide (0<x1_1)=true:=decide_eq_true c3;clear c3
    by_cases c4:x1_1=0
    ·rw [if_pos c4] at H;exact absurd H (by simp)
    ·rw [if_neg c4] at H
     have c4b0:(x1_1 == 0)=false:=beq_eq_false_iff_ne.mpr c4
     have c4b1:(x1_1 != 0)=true:=bne_iff_ne.mpr c4
     have H':=A0_ H
     clear H;go_wp2
     repeat (go_quiet (fail);try go_wp2)
     go_roundg k1
     case measure=>have:=HK1.out;omega
     case rel=>exact ⟨(x1_1),(Int.tmod x0_1 x1_1),y4_,y4_,H',⟨by have:=HK1.out;omega⟩,yb_⟩
   ·rw [if_neg c3] at H;have c3b0:decide (0<x1_1)=false:=decide_eq_false c3;clear c3;obtain rfl:=Option.some.inj H;go_wp2
    repeat (go_quiet (fail);try go_wp2)
    go_ret
    exact ⟨y4_,yb_⟩
end Go.Proofs.YtjahbgldccjbfaaGreatDoor.PSky
end
section
namespace Go.Proofs.YtjahbgldccjbfaaGreatDoor.PSky
open Go.RowKit Go.Proofs.YtjahbgldccjbfaaGreatDoorW.PrintWords Go.Proofs.YtjahbgldccjbfaaGreatDoorW.PrintLast Go.Proofs.YtjahbgldccjbfaaGreatDoorW.PrintMore
attribute [local go_sem] max2_int min2_int max_two min_two max_three min_three max_four min_four
set_option linter.unusedVariables false
set_option linter.unusedSimpArgs false
def sky_month.f (l0_0:List (S74)) (a0_1:Int) (a0_2:Int) (a0_3:Int):Option (Int × Int):=if 0<(l0_0.length:Int) then (if 1<(l0_0.length:Int) then (if (wrap64 ((wrap64 (((rd_T74 l0_0 1).f0.f1)*((rd_T74 l0_0 0).f0.f0))) - (wrap64 (((rd_T74 l0_0 0).f0.f1)*((rd_T74 l0_0 1).f0.f0)))))≤0 then (none) else (some (wrap64 (((rd_T74 l0_0 1).f0.f0)*((rd_T74 l0_0 0).f0.f0)),wrap64 ((wrap64 (((rd_T74 l0_0 1).f0.f1)*((rd_T74 l0_0 0).f0.f0))) - (wrap64 (((rd_T74 l0_0 0).f0.f1)*((rd_T74 l0_0 1).f0.f0))))))) else (none)) else (none)
set_option maxRecDepth 100000 in
set_option maxHeartbeats 4000000 in
theorem sky_month.both (A0_0:Option Addr) (c0_0:Nat) (l0_0:List (S74)) (a0_1:Int) (a0_2:Int) (a0_3:Int) (w:World) (hr0_0:Kd.C k74 w A0_0 l0_0.length l0_0) (h1:1<(l0_0.length:Int)):
  Calls Tryz.prog 86 #[.agg #[.slice A0_0 l0_0.length c0_0,.int .i64 a0_1,.int .i64 a0_2,.int .i64 a0_3]] w fun e w'=>e=(if (wrap64 ((wrap64 (((rd_T74 l0_0 1).f0.f1)*((rd_T74 l0_0 0).f0.f0))) - (wrap64 (((rd_T74 l0_0 0).f0.f1)*((rd_T74 l0_0 1).f0.f0)))))≤0 then .panicked [{ v:=.iface 126 (.agg #[.int .i64 7]),recovered:=false }] else .returned (.tuple #[.int .i64 (wrap64 (((rd_T74 l0_0 1).f0.f0)*((rd_T74 l0_0 0).f0.f0))),.int .i64 (wrap64 ((wrap64 (((rd_T74 l0_0 1).f0.f1)*((rd_T74 l0_0 0).f0.f0))) - (wrap64 (((rd_T74 l0_0 0).f0.f1)*((rd_T74 l0_0 1).f0.f0)))))]))∧Below w.heap.size w w':=by
 obtain ⟨ad,A3,c3,rfl,p0,p1,-,-,-,-⟩:=at_T74 hr0_0 0 (by omega) (by omega)
 obtain ⟨ad',A4,c4,e,q0,q1,-,-,-,-⟩:=at_T74 hr0_0 1 (by omega) h1
 obtain rfl:=Option.some.inj e
 clear e hr0_0
 rw [show (0:Int).toNat*4=0 from rfl,Addr.add_zero'] at p0 p1
 go_enter Tryz.func86,Tryz.ntmps86
 go_wp2
 have hB:=below_alloc (Below.refl w.heap.size w) (.cells #[.slice (some ad) l0_0.length c0_0,.int .i64 a0_1,.int .i64 a0_2,.int .i64 a0_3] 29)
 have bS:=blk_new w (.cells #[.slice (some ad) l0_0.length c0_0,.int .i64 a0_1,.int .i64 a0_2,.int .i64 a0_3] 29)
 have x0:_=some (Value.slice (some ad) l0_0.length c0_0):=(blk_cell bS 0).trans rfl
 have hlt:=World.block_lt_of_cell? w _ p0
 replace p0:=(hB.cell hlt).trans p0
 replace p1:=(hB.cell (World.block_lt_of_cell? w _ p1)).trans p1
 replace q0:=(hB.cell (World.block_lt_of_cell? w _ q0)).trans q0
 replace q1:=(hB.cell (World.block_lt_of_cell? w _ q1)).trans q1
 generalize w.alloc (.cells #[.slice (some ad) l0_0.length c0_0,.int .i64 a0_1,.int .i64 a0_2,.int .i64 a0_3] 29)=W at *
 simp only [show (1:Int).toNat=1 from rfl,Nat.reduceMul,Nat.reduceEqDiff,Go.Addr.add,↓reduceIte] at q0 q1
 have l0:0<l0_0.length:=by omega
 have l1:1<l0_0.length:=by omega
 have hlt2:ad.block<W.heap.size:=Nat.lt_of_lt_of_le hlt hB.size
 have hlt3:w.heap.size<W.heap.size:=blk_lt bS
 clear bS
 go_region
 all_goals
  have hC:=fun u v n=>pw_below_drewN (below_alloc (below_alloc hB u) v) n
  go_wp2
  go_quiet (fail)
  go_wp2
 all_goals first
  |exact ⟨rfl,(if_pos (by assumption)).symm,hC _ _ _⟩
  |(go_ret2;refine ⟨?_,hC _ _ _⟩;first|rfl|(rw [if_neg (Int.not_le.mpr (by assumption))];rfl))
set_option maxRecDepth 100000 in
set_option maxHeartbeats 8000000 in
theorem sky_month.calls (A0_0:Option Addr) (c0_0:Nat) (l0_0:List (S74)) (a0_1:Int) (a0_2:Int) (a0_3:Int) (r1:Int) (r2:Int) (w:World) (hr0_0:Kd.C k74 w A0_0 l0_0.length l0_0) (hc0_0:l0_0.length≤c0_0) (h:sky_month.f l0_0 a0_1 a0_2 a0_3=some (r1,r2)):
  Calls Tryz.prog 86 #[.agg #[.slice A0_0 l0_0.length c0_0,.int .i64 a0_1,.int .i64 a0_2,.int .i64 a0_3]] w fun e w'=>e=.returned (.tuple #[.int .i64 r1,.int .i64 r2])∧Below w.heap.size w w':=by
 unfold sky_month.f at h
 split at h
 ·split at h
  ·split at h
   ·cases h
   ·rename_i h1 h2
    simp only [Option.some.injEq,Prod.mk.injEq] at h
    obtain ⟨rfl,rfl⟩:=h
    refine (sky_month.both A0_0 c0_0 l0_0 a0_1 a0_2 a0_3 w hr0_0 h1).mono ?_
    intro e w' hx
    rw [if_neg h2] at hx
    exact hx
  ·cases h
 ·cases h
theorem sky_month.gaveUp (A0_0:Option Addr) (c0_0:Nat) (l0_0:List (S74)) (a0_1:Int) (a0_2:Int) (a0_3:Int) (w:World) (hr0_0:Kd.C k74 w A0_0 l0_0.length l0_0) (hc0_0:l0_0.length≤c0_0) (h2:1<(l0_0.length:Int)) (h:(wrap64 ((wrap64 (((rd_T74 l0_0 1).f0.f1)*((rd_T74 l0_0 0).f0.f0))) - (wrap64 (((rd_T74 l0_0 0).f0.f1)*((rd_T74 l0_0 1).f0.f0)))))≤0):
  Calls Tryz.prog 86 #[.agg #[.slice A0_0 l0_0.length c0_0,.int .i64 a0_1,.int .i64 a0_2,.int .i64 a0_3]] w fun e w'=>e=.panicked [{ v:=.iface 126 (.agg #[.int .i64 7]),recovered:=false }]∧Below w.heap.size w w':=by
 refine (sky_month.both A0_0 c0_0 l0_0 a0_1 a0_2 a0_3 w hr0_0 h2).mono ?_
 intro e w' hx
 rw [if_pos h] at hx
 exact hx
end Go.Proofs.YtjahbgldccjbfaaGreatDoor.PSky
end
